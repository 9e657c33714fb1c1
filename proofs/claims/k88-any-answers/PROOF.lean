import PyProof.Rows.All
import Wide.All
import OpenK.AllK
import Wide.FinOn
import HandS.ForMost
import HandS.Exc
import HandS.ExcOwn
import HandS.TryOnly
import HandS.TryMany
import HandS.WordsExc
import HandS.SortKw
import HandS.SortInts
import HandS.Wide
import HandS.WideMore
import HandS.WideBits
import HandS.Defaults
import HandS.Flow
import HandS.Style
import HandS.Conv
import HandS.Lambda
import HandS.Head0
import HandS.Head1
import HandS.Head2
import HandS.Head3
import HandS.HeadEnd
import HandS.HeadHook1
import HandS.HeadHook2
import HandS.HeadHook3
import HandS.HeadHook4
import HandS.TupAny
import HandS.IsInst
import HandS.Star
import HandS.RevRange
import KE.GoesMore
import HandS.Zip
import HandS.ExcInit
import HandS.ExcField
import HandS.ExcIs
import KE.KExcIs
import HandS.EndTab
import HandS.HeadWalk
import PySem.Challenge.RW_askedorder_k88_heaps_by_any_answers
set_option Elab.async false
set_option linter.all false
set_option maxRecDepth 100000
set_option maxHeartbeats 0
set_option autoImplicit false
/-! DL: values as trees, a symbolic heap by a list of places, over the hand layer. -/
namespace DL
open PySem PySem.Spec PyProof.Rows L2

/-- a value; tuples are trees -/
inductive D where
  | non | bl (b : Bool) | int (i : Int) | str (x : Str) | ref (a : Addr) | ty (n : String) | tup (ds : List D)

mutual
inductive DR (K : PySem.W.Frag) (H : Hp) : D → V → Prop
  | non : DR K H .non .non
  | bl {b} : DR K H (.bl b) (.bl b)
  | int {i} : DR K H (.int i) (.int i)
  | str {x} : DR K H (.str x) (.str x)
  | ref {a} : DR K H (.ref a) (.ref a)
  | ty {n} : DR K H (.ty n) (.ty n)
  | tup {ds vs a} : SqT K H a vs → DRs K H ds vs → DR K H (.tup ds) (.ref a)
inductive DRs (K : PySem.W.Frag) (H : Hp) : List D → List V → Prop
  | nil : DRs K H [] []
  | cons {d v ds vs} : DR K H d v → DRs K H ds vs → DRs K H (d :: ds) (v :: vs)
end
/-- the defs of the laws that make lambdas -/
def lamNames : List (Str × Option Str) := [("_law_run_due", none), ("leap_with", none), ("place_before", none), ("place_behind", none), ("_law_numbers_right", none), ("_law_lengths_right", none), ("law", none), ("Known", some "order"), ("_law_right", none), ("_law_refused_right", none), ("_law_all_say", none),
  ("stable_order", none), ("_law_words_refused", none), ("_law_rows_refused", none), ("_law_keys_refused", none), ("_law_empty_refused", none), ("_law_sizes_refused", none), ("_law_heaps_refused", none), ("places_asked", none), ("_law_all", none)]
def quOf (p : Str × Option Str) : Str := match p.2 with
  | none => p.1
  | some m => p.1 ++ "." ++ m
/-- their tables of code, with what stands in them -/
def tabsK (K : PySem.W.Frag) : List (Addr × Str) := lamNames.map fun p => ((He.cT K p).2, quOf p ++ ".<locals>." ++ "<lambda>")
/-- tuples and tables of code stay -/
def TK (K : PySem.W.Frag) (H H' : Hp) : Prop := (∀ a vs, SqT K H a vs → SqT K H' a vs) ∧ (∀ p ∈ tabsK K, LamX.TabS H p.1 p.2 → LamX.TabS H' p.1 p.2) ∧ ∀ c q, H c = some (LamX.CodeO c q) → H' c = some (LamX.CodeO c q)
theorem TK.refl {K H} : TK K H H := ⟨fun _ _ h => h, fun _ _ h => h, fun _ _ h => h⟩
theorem TK.trans {K H H1 H2} (a : TK K H H1) (b : TK K H1 H2) : TK K H H2 := ⟨fun _ _ h => b.1 _ _ (a.1 _ _ h), fun _ m h => b.2.1 _ m (a.2.1 _ m h), fun _ _ h => b.2.2 _ _ (a.2.2 _ _ h)⟩
section
variable {K : PySem.W.Frag} {H H' : Hp}
mutual
theorem DR.mono (t : TK K H H') : ∀ {d : D} {v : V}, DR K H d v → DR K H' d v
  | _, _, .non => .non
  | _, _, .bl => .bl
  | _, _, .int => .int
  | _, _, .str => .str
  | _, _, .ref => .ref
  | _, _, .ty => .ty
  | _, _, .tup s r => .tup (t.1 _ _ s) (DRs.mono t r)
theorem DRs.mono (t : TK K H H') : ∀ {ds : List D} {vs : List V}, DRs K H ds vs → DRs K H' ds vs
  | _, _, .nil => .nil
  | _, _, .cons a b => .cons (DR.mono t a) (DRs.mono t b)
end
theorem DRs.length : ∀ {ds : List D} {vs : List V}, DRs K H ds vs → ds.length = vs.length
  | _, _, .nil => rfl
  | _, _, .cons _ b => congrArg Nat.succ (DRs.length b)
theorem DRs.append : ∀ {ds es : List D} {vs us : List V}, DRs K H ds vs → DRs K H es us → DRs K H (ds ++ es) (vs ++ us)
  | _, _, _, _, .nil, b => b
  | _, _, _, _, .cons a r, b => .cons a (DRs.append r b)
theorem DRs.get : ∀ {ds : List D} {vs : List V} {i : Nat} {d : D}, DRs K H ds vs → ds[i]? = some d → ∃ v, vs[i]? = some v ∧ DR K H d v
  | _, _, _, _, .nil, e => by simp at e
  | _, _, 0, _, .cons r _, e => by simp at e; subst e; exact ⟨_, rfl, r⟩
  | _, _, i + 1, _, .cons _ t, e => by
    obtain ⟨u, h1, h2⟩ := DRs.get (i := i) t (by simpa using e)
    exact ⟨u, by simpa using h1, h2⟩
theorem DRs.get' : ∀ {ds : List D} {vs : List V} {i : Nat} {v : V}, DRs K H ds vs → vs[i]? = some v → ∃ d, ds[i]? = some d ∧ DR K H d v
  | _, _, _, _, .nil, e => by simp at e
  | _, _, 0, _, .cons r _, e => by simp at e; subst e; exact ⟨_, rfl, r⟩
  | _, _, i + 1, _, .cons _ t, e => by
    obtain ⟨u, h1, h2⟩ := DRs.get' (i := i) t (by simpa using e)
    exact ⟨u, by simpa using h1, h2⟩
theorem DRs.set {d : D} {v : V} (r : DR K H d v) : ∀ {ds : List D} {vs : List V} (i : Nat), DRs K H ds vs → DRs K H (ds.set i d) (vs.set i v)
  | _, _, _, .nil => .nil
  | _, _, 0, .cons _ t => .cons r t
  | _, _, i + 1, .cons q t => .cons q (DRs.set r i t)
theorem DRs.take : ∀ {ds : List D} {vs : List V} (n : Nat), DRs K H ds vs → DRs K H (ds.take n) (vs.take n)
  | _, _, 0, _ => .nil
  | _, _, _ + 1, .nil => .nil
  | _, _, n + 1, .cons r t => .cons r (DRs.take n t)
theorem DRs.drop : ∀ {ds : List D} {vs : List V} (n : Nat), DRs K H ds vs → DRs K H (ds.drop n) (vs.drop n)
  | _, _, 0, r => r
  | _, _, _ + 1, .nil => .nil
  | _, _, n + 1, .cons r t => DRs.drop n t
theorem DRs.reverse : ∀ {ds : List D} {vs : List V}, DRs K H ds vs → DRs K H ds.reverse vs.reverse
  | _, _, .nil => .nil
  | _, _, .cons a b => by
    rw [List.reverse_cons, List.reverse_cons]
    exact (DRs.reverse b).append (.cons a .nil)
theorem DRs.ints : ∀ (xs : List Int), DRs K H (xs.map D.int) (xs.map V.int)
  | [] => .nil
  | _ :: r => .cons .int (DRs.ints r)
theorem DRs.ints' : ∀ {xs : List Int} {vs : List V}, DRs K H (xs.map D.int) vs → vs = xs.map V.int
  | [], _, .nil => rfl
  | _ :: _, _, .cons .int r => by rw [DRs.ints' r]; rfl
end

/-! ### names of attributes: numbers -/
def fnamesS : List String := ["marks", "log", "answers", "pair", "row", "is_turned", "asker", "joiner", "stack", "steps", "busy", "many", "words", "counts", "shapes", "ways", "parts", "calm", "found", "joins", "index", "name", "question", "answer", "count", "limit", "left", "one", "other", "span", "aside", "line", "sorts", "sorting", "base", "gone", "has_more", "is_forward", "sorter", "tallied", "things", "whole"]
def fnames : List Str := fnamesS.map PySem.Str.ofString
def fname (i : Nat) : Str := fnames.getD i ""
theorem fnames_nd : fnames.Nodup := by decide +kernel
theorem fname_inj {i j : Nat} (hi : i < fnames.length) (hj : j < fnames.length) (e : fname i = fname j) : i = j := by
  have h1 : fnames[i]? = some (fname i) := by unfold fname; simp [List.getD, List.getElem?_eq_getElem hi]
  have h2 : fnames[j]? = some (fname j) := by unfold fname; simp [List.getD, List.getElem?_eq_getElem hj]
  rw [e] at h1
  exact nd_ix fnames_nd h1 h2
/-- the attributes of an instance -/
inductive FRs (K : PySem.W.Frag) (H : Hp) : List (Nat × D) → List (Str × V) → Prop
  | nil : FRs K H [] []
  | cons {i d v fs gs} : i < fnames.length → DR K H d v → FRs K H fs gs → FRs K H ((i, d) :: fs) ((fname i, v) :: gs)
def putN (i : Nat) (d : D) : List (Nat × D) → List (Nat × D)
  | [] => [(i, d)]
  | (j, e) :: r => match Nat.beq j i with
    | true => (j, d) :: r
    | false => (j, e) :: putN i d r
def getN (i : Nat) : List (Nat × D) → Option D
  | [] => none
  | (j, e) :: r => match Nat.beq j i with
    | true => some e
    | false => getN i r
section
variable {K : PySem.W.Frag} {H H' : Hp}
theorem FRs.mono (t : TK K H H') : ∀ {fs gs}, FRs K H fs gs → FRs K H' fs gs
  | _, _, .nil => .nil
  | _, _, .cons hi a b => .cons hi (a.mono t) (FRs.mono t b)
theorem FRs.length : ∀ {fs gs}, FRs K H fs gs → fs.length = gs.length
  | _, _, .nil => rfl
  | _, _, .cons _ _ b => congrArg Nat.succ (FRs.length b)
theorem FRs.get {i : Nat} (hi : i < fnames.length) : ∀ {fs gs} {d : D}, FRs K H fs gs → getN i fs = some d → ∃ v, gs.lookup (fname i) = some v ∧ DR K H d v
  | _, _, _, .nil, e => by cases e
  | (j, x) :: r, _, d, .cons (v := v) (gs := gs) hj a b, e => by
    unfold getN at e
    cases q : Nat.beq j i with
    | true =>
      rw [q] at e
      have e1 : j = i := Nat.eq_of_beq_eq_true q
      have e2 : x = d := Option.some.inj e
      subst e1 e2
      exact ⟨v, by simp [List.lookup], a⟩
    | false =>
      rw [q] at e
      obtain ⟨v', h1, h2⟩ := FRs.get hi b e
      refine ⟨v', ?_, h2⟩
      have ne : fname i ≠ fname j := fun z => by
        have := fname_inj hi hj z
        subst this
        rw [Nat.beq_refl] at q
        cases q
      have : (fname i == fname j) = false := by simpa using ne
      rw [List.lookup, this]
      exact h1
theorem FRs.none_of {m : Str} (hm : ∀ i, i < fnames.length → fname i ≠ m) : ∀ {fs gs}, FRs K H fs gs → gs.lookup m = none
  | _, _, .nil => rfl
  | _, _, .cons (i := j) hj a b => by
    have : (m == fname j) = false := by simpa using (hm j hj).symm
    rw [List.lookup, this]
    exact FRs.none_of hm b
theorem putF_nil (f : Str) (v : V) : putF f v [] = [(f, v)] := rfl
theorem putF_cons (f g : Str) (v u : V) (r : List (Str × V)) : putF f v ((g, u) :: r) = if g = f then (g, v) :: r else (g, u) :: putF f v r := by
  rfl
theorem FRs.put {i : Nat} (hi : i < fnames.length) {d : D} {v : V} (rv : DR K H d v) : ∀ {fs gs}, FRs K H fs gs → FRs K H (putN i d fs) (putF (fname i) v gs)
  | _, _, .nil => .cons hi rv .nil
  | (j, x) :: r, _, .cons (v := u) (gs := gs) hj a b => by
    unfold putN
    rw [putF_cons]
    cases q : Nat.beq j i with
    | true =>
      have e1 : j = i := Nat.eq_of_beq_eq_true q
      subst e1
      rw [if_pos rfl]
      exact .cons hj rv b
    | false =>
      have ne : fname j ≠ fname i := fun z => by
        have := fname_inj hj hi z
        subst this
        rw [Nat.beq_refl] at q
        cases q
      rw [if_neg ne]
      exact .cons hj a (FRs.put hi rv b)
end

/-! ### the symbolic heap -/
inductive LO where
  | lst (ds : List D)
  | ro (ds : List D)
  | ins (C : Addr) (fs : List (Nat × D))
  | dk (kvs : List (Key × D))
  | dt (kvs : List (List Key × D))
  | xd (fs : List (Nat × D))
  | gh (P : Hp → Prop)
abbrev LL := List (Addr × LO)
abbrev Sl := List (Option D)
def isRw : LO → Bool
  | .ro _ => false
  | .gh _ => false
  | _ => true
inductive KVs (K : PySem.W.Frag) (H : Hp) {κ : Type} : List (κ × D) → List (κ × V) → Prop
  | nil : KVs K H [] []
  | cons {k d v fs gs} : DR K H d v → KVs K H fs gs → KVs K H ((k, d) :: fs) ((k, v) :: gs)
theorem KVs.mono {κ : Type} {K : PySem.W.Frag} {H H' : Hp} (t : TK K H H') : ∀ {fs : List (κ × D)} {gs}, KVs K H fs gs → KVs K H' fs gs
  | _, _, .nil => .nil
  | _, _, .cons a b => .cons (a.mono t) (KVs.mono t b)
/-- a list of the written part -/
def KL (K : PySem.W.Frag) (a : Addr) (xs : List V) : Prop :=
  ∃ (o : Obj) (its : Array Value) (n : Nat), K.lookup a = some o ∧ o.cls = .type "list" ∧ o.dict = none ∧ o.data = .seq its n ∧ its.size ≤ sizeLine ∧ Vals xs its.toList
/-- what stands at a is o -/
def OKo (K : PySem.W.Frag) (H : Hp) (a : Addr) : LO → Prop
  | .lst ds => ∃ vs, H a = some (.lst vs) ∧ DRs K H ds vs
  | .ro ds => ∃ vs, ((∃ o, H a = some (.frz o (.lst vs))) ∨ KL K a vs) ∧ DRs K H ds vs
  | .ins C fs => ∃ dx gs, H a = some (.ins C dx gs) ∧ FRs K H fs gs
  | .dk kvs => ∃ gs, H a = some (.dK gs) ∧ KVs K H kvs gs
  | .dt kvs => ∃ gs, H a = some (.dT gs) ∧ KVs K H kvs gs
  | .xd fs => ∃ gs, H a = some (.xd gs) ∧ FRs K H fs gs
  | .gh P => P H ∧ ∀ H1 H2, P H1 → TK K H1 H2 → P H2
structure HL (K : PySem.W.Frag) (H : Hp) (L : LL) : Prop where
  ok : ∀ p ∈ L, OKo K H p.1 p.2
  nd : L.Pairwise fun p q => isRw p.2 = true → isRw q.2 = true → p.1 ≠ q.1
inductive Sel : LL → Addr → LO → LL → Prop
  | here {a o L} : Sel ((a, o) :: L) a o L
  | there {x L a o L'} : Sel L a o L' → Sel (x :: L) a o (x :: L')
inductive Has : LL → Addr → LO → Prop
  | here {a o L} : Has ((a, o) :: L) a o
  | there {x L a o} : Has L a o → Has (x :: L) a o
inductive Chg : LL → Addr → LO → LO → LL → Prop
  | here {a o o' L} : Chg ((a, o) :: L) a o o' ((a, o') :: L)
  | there {x L a o o' L'} : Chg L a o o' L' → Chg (x :: L) a o o' (x :: L')
/-- L holds all that M holds -/
inductive Cov : LL → LL → Prop
  | refl {L} : Cov L L
  | drop {x L M} : Cov L M → Cov (x :: L) M
  | take {L a o o' L1 M} : Sel L a o' L1 → o' = o → Cov L1 M → Cov L ((a, o) :: M)
theorem Sel.perm {L a o L'} (h : Sel L a o L') : L.Perm ((a, o) :: L') := by
  induction h with
  | here => exact .refl _
  | there _ ih => exact (List.Perm.cons _ ih).trans (.swap _ _ _)
theorem Has.mem {L a o} (h : Has L a o) : (a, o) ∈ L := by
  induction h with
  | here => exact List.mem_cons_self
  | there _ ih => exact List.mem_cons_of_mem _ ih
theorem Has.of_mem {a o} : ∀ {L : LL}, (a, o) ∈ L → Has L a o
  | [], h => by cases h
  | x :: r, h => by
    rcases List.mem_cons.mp h with e | h
    · subst e; exact .here
    · exact .there (Has.of_mem h)
theorem HL.perm {K H L L'} (h : HL K H L) (p : L.Perm L') : HL K H L' :=
  ⟨fun q hq => h.ok q (p.mem_iff.mpr hq), (p.pairwise_iff (fun {x y} z h1 h2 => (z h2 h1).symm)).mp h.nd⟩
theorem HL.tail {K H x L} (h : HL K H (x :: L)) : HL K H L := ⟨fun q hq => h.ok q (List.mem_cons_of_mem _ hq), (List.pairwise_cons.mp h.nd).2⟩
theorem Cov.perm {L M} (c : Cov L M) : ∃ G, L.Perm (M ++ G) := by
  induction c with
  | refl => exact ⟨[], by simp⟩
  | @drop x L M _ ih =>
    obtain ⟨G, p⟩ := ih
    exact ⟨x :: G, (List.Perm.cons _ p).trans List.perm_middle.symm⟩
  | take s e _ ih =>
    obtain ⟨G, p⟩ := ih
    subst e
    exact ⟨G, s.perm.trans (List.Perm.cons _ p)⟩
theorem HL.left {K H G} : ∀ {M}, HL K H (M ++ G) → HL K H M := fun {M} h =>
  ⟨fun q hq => h.ok q (List.mem_append_left _ hq), (List.pairwise_append.mp h.nd).1⟩
theorem HL.cov {K H L M} (h : HL K H L) (c : Cov L M) : HL K H M := by
  obtain ⟨G, p⟩ := c.perm
  exact (h.perm p).left
theorem Cov.has {L M a o} (c : Cov L M) (h : Has M a o) : Has L a o := by
  obtain ⟨G, p⟩ := c.perm
  exact .of_mem (p.mem_iff.mpr (List.mem_append_left _ h.mem))
section
variable {K : PySem.W.Frag} {H H' : Hp} {L L' : LL} {a : Addr} {o o' : LO}
theorem HL.has (h : HL K H L) (s : Has L a o) : OKo K H a o := h.ok _ s.mem
theorem OKo.there (h : OKo K H a o) (r : isRw o = true) : ∃ u, H a = some u := by
  cases o with
  | ro ds => cases r
  | lst ds => obtain ⟨vs, e, _⟩ := h; exact ⟨_, e⟩
  | ins C fs => obtain ⟨dx, gs, e, _⟩ := h; exact ⟨_, e⟩
  | dk kvs => obtain ⟨gs, e, _⟩ := h; exact ⟨_, e⟩
  | dt kvs => obtain ⟨gs, e, _⟩ := h; exact ⟨_, e⟩
  | xd fs => obtain ⟨gs, e, _⟩ := h; exact ⟨_, e⟩
  | gh P => cases r
/-- a rw object elsewhere, or a ro one, over a change at b where something rw stood -/
theorem OKo.step (h : OKo K H a o) (t : TK K H H') (e : ∀ u, H a = some u → H' a = some u) : OKo K H' a o := by
  cases o with
  | ro ds =>
    obtain ⟨vs, h, r⟩ := h
    refine ⟨vs, ?_, r.mono t⟩
    rcases h with ⟨ob, h⟩ | h
    · exact .inl ⟨ob, e _ h⟩
    · exact .inr h
  | lst ds => obtain ⟨vs, h, r⟩ := h; exact ⟨vs, e _ h, r.mono t⟩
  | ins C fs => obtain ⟨dx, gs, h, r⟩ := h; exact ⟨dx, gs, e _ h, r.mono t⟩
  | dk kvs => obtain ⟨gs, h, r⟩ := h; exact ⟨gs, e _ h, r.mono t⟩
  | dt kvs => obtain ⟨gs, h, r⟩ := h; exact ⟨gs, e _ h, r.mono t⟩
  | xd fs => obtain ⟨gs, h, r⟩ := h; exact ⟨gs, e _ h, r.mono t⟩
  | gh P => exact ⟨h.2 _ _ h.1 t, h.2⟩
end
end DL

namespace DL
open PySem PySem.Spec PyProof.Rows L2
section
variable {K : PySem.W.Frag} {H H' : Hp} {L L' : LL} {a p : Addr} {o o' : LO} {ho ho' : HO}
/-- what may be written over -/
def MutL : HO → Prop
  | .lst _ => True
  | .dK _ => True
  | .dT _ => True
  | .ins _ _ _ => True
  | _ => False
theorem MutL.mut {o : HO} (h : MutL o) : Mut (some o) := by
  cases o with
  | lst _ => trivial
  | dK _ => trivial
  | dT _ => trivial
  | ins _ _ _ => trivial
  | _ => exact (show False from h).elim
theorem TK.new (hp : H p = none) : TK K H (upd H p ho) := ⟨fun a vs h => by
  rcases h with (h | ⟨ob, h⟩) | h
  · exact .inl (.inl (by rw [upd_ne (ne_of_none h hp)]; exact h))
  · exact .inl (.inr ⟨ob, by rw [upd_ne (ne_of_none h hp)]; exact h⟩)
  · exact .inr h, fun p0 _ h => h.ext fun b o e => by rw [upd_ne (ne_of_none e hp)]; exact e, fun c q e => by rw [upd_ne (ne_of_none e hp)]; exact e⟩
theorem ne_mut {b : Addr} {u : HO} (h : H a = some ho) (m : Mut (some ho)) (hb : H b = some u) (n : ¬ Mut (some u)) : b ≠ a := fun e => by
  subst e
  rw [h] at hb
  cases hb
  exact n m
theorem ne_mutl {b : Addr} {u : HO} (h : H a = some ho) (m : MutL ho) (hb : H b = some u) (n : ¬ MutL u) : b ≠ a := fun e => by
  subst e
  rw [h] at hb
  cases hb
  exact n m
theorem TK.chg (h : H a = some ho) (m : MutL ho) : TK K H (upd H a ho') := ⟨fun b vs q => by
  rcases q with (q | ⟨ob, q⟩) | q
  · exact .inl (.inl (by rw [upd_ne (ne_mut h m.mut q (fun z => z))]; exact q))
  · exact .inl (.inr ⟨ob, by rw [upd_ne (ne_mut h m.mut q (fun z => z))]; exact q⟩)
  · exact .inr q, fun p0 _ ⟨ps, e1, e2, e3⟩ => ⟨ps, by rw [upd_ne (ne_mutl h m e1 (fun z => z))]; exact e1, e2, fun pos cv hc => by
    obtain ⟨c, e4, e5⟩ := e3 pos cv hc
    exact ⟨c, e4, by rw [upd_ne (ne_mutl h m e5 (fun z => z))]; exact e5⟩⟩, fun c q e => by rw [upd_ne (ne_mutl h m e (fun z => z))]; exact e⟩
theorem OKo.new {b : Addr} (h : OKo K H b o) (hp : H p = none) : OKo K (upd H p ho) b o := h.step (TK.new hp) fun u e => by rw [upd_ne (ne_of_none e hp)]; exact e
theorem OKo.chg {b : Addr} (h : OKo K H b o) (ha : H a = some ho) (m : MutL ho) (ne : isRw o = true → b ≠ a) : OKo K (upd H a ho') b o := by
  have t : TK K H (upd H a ho') := TK.chg ha m
  cases o with
  | ro ds =>
    obtain ⟨vs, h, r⟩ := h
    refine ⟨vs, ?_, r.mono t⟩
    rcases h with ⟨ob, h⟩ | h
    · exact .inl ⟨ob, by rw [upd_ne (ne_mut ha m.mut h (fun z => z))]; exact h⟩
    · exact .inr h
  | lst ds => obtain ⟨vs, h, r⟩ := h; exact ⟨vs, by rw [upd_ne (ne rfl)]; exact h, r.mono t⟩
  | ins C fs => obtain ⟨dx, gs, h, r⟩ := h; exact ⟨dx, gs, by rw [upd_ne (ne rfl)]; exact h, r.mono t⟩
  | dk kvs => obtain ⟨gs, h, r⟩ := h; exact ⟨gs, by rw [upd_ne (ne rfl)]; exact h, r.mono t⟩
  | dt kvs => obtain ⟨gs, h, r⟩ := h; exact ⟨gs, by rw [upd_ne (ne rfl)]; exact h, r.mono t⟩
  | xd fs => obtain ⟨gs, h, r⟩ := h; exact ⟨gs, by rw [upd_ne (ne rfl)]; exact h, r.mono t⟩
  | gh P => exact ⟨h.2 _ _ h.1 t, h.2⟩
theorem HL.mono_new (h : HL K H L) (hp : H p = none) : HL K (upd H p ho) L := ⟨fun q hq => (h.ok q hq).new hp, h.nd⟩
theorem HL.new (h : HL K H L) (hp : H p = none) (ok : OKo K (upd H p ho) p o) : HL K (upd H p ho) ((p, o) :: L) := by
  refine ⟨fun q hq => ?_, List.pairwise_cons.mpr ⟨fun q hq _ r z => ?_, h.nd⟩⟩
  · rcases List.mem_cons.mp hq with e | hq
    · subst e; exact ok
    · exact (h.ok q hq).new hp
  · obtain ⟨u, e⟩ := (h.ok q hq).there r
    have z' : p = q.1 := z
    rw [← z', hp] at e
    cases e
theorem Chg.sel (c : Chg L a o o' L') : ∃ L0, L.Perm ((a, o) :: L0) ∧ L'.Perm ((a, o') :: L0) := by
  induction c with
  | here => exact ⟨_, .refl _, .refl _⟩
  | there _ ih =>
    obtain ⟨L0, p, q⟩ := ih
    exact ⟨_ :: L0, (List.Perm.cons _ p).trans (.swap _ _ _), (List.Perm.cons _ q).trans (.swap _ _ _)⟩
theorem Chg.has (c : Chg L a o o' L') : Has L a o := by
  induction c with
  | here => exact .here
  | there _ ih => exact .there ih
theorem HL.chg (h : HL K H L) (c : Chg L a o o' L') (ro : isRw o = true) (ha : H a = some ho) (m : MutL ho) (ok : OKo K (upd H a ho') a o') : HL K (upd H a ho') L' := by
  obtain ⟨L0, p, q⟩ := c.sel
  have h0 := h.perm p
  obtain ⟨n1, n2⟩ := List.pairwise_cons.mp h0.nd
  have h1 : HL K (upd H a ho') ((a, o') :: L0) := by
    refine ⟨fun x hx => ?_, List.pairwise_cons.mpr ⟨fun x hx _ r => n1 x hx ro r, n2⟩⟩
    rcases List.mem_cons.mp hx with e | hx
    · subst e; exact ok
    · exact (h0.ok x (List.mem_cons_of_mem _ hx)).chg ha m fun r => (n1 x hx ro r).symm
  exact h1.perm q.symm
theorem HL.lst {ds : List D} (h : HL K H L) (s : Has L a (.lst ds)) : ∃ vs, H a = some (.lst vs) ∧ DRs K H ds vs := h.has s
/-- a list that is read: rw or ro -/
def HasL (L : LL) (a : Addr) (ds : List D) : Prop := Has L a (.lst ds) ∨ Has L a (.ro ds)
theorem HL.seq {ds : List D} (h : HL K H L) (s : HasL L a ds) : ∃ vs, SqL K H a vs ∧ DRs K H ds vs := by
  rcases s with s | s
  · obtain ⟨vs, e, r⟩ := h.has s
    exact ⟨vs, .inl (.inl e), r⟩
  · obtain ⟨vs, e, r⟩ := h.has s
    refine ⟨vs, ?_, r⟩
    rcases e with ⟨ob, e⟩ | e
    · exact .inl (.inr ⟨ob, e⟩)
    · exact .inr e
end

/-! ### lifts -/
abbrev DK := D → LL → Prop
abbrev TE' := Sl → LL → DK → Prop
abbrev TT' := Sl → LL → (LL → Prop) → (LL → Prop) → Prop
abbrev TA' := Sl → LL → (List D → LL → Prop) → Prop
structure EndsD where
  nx : Sl → LL → Prop
  rt : DK
  bk : Sl → LL → Prop := fun _ _ => False
  ct : Sl → LL → Prop := fun _ _ => False
abbrev TS' := EndsD → Sl → LL → Prop
inductive SR (K : PySem.W.Frag) (H : Hp) : Sl → L2.St → Prop
  | nil : SR K H [] []
  | no {x σd σ} : SR K H σd σ → SR K H (none :: σd) (x :: σ)
  | yes {d v σd σ} : DR K H d v → SR K H σd σ → SR K H (some d :: σd) (some v :: σ)
def Kont (K : PySem.W.Frag) (H : Hp) (Φ : DK) (Q : VK) : Prop := ∀ d L v H', Φ d L → TK K H H' → DR K H' d v → HL K H' L → Q v H'
def KontB (K : PySem.W.Frag) (H : Hp) (T F : LL → Prop) (Q : Bool → Hp → Prop) : Prop := (∀ L H', T L → TK K H H' → HL K H' L → Q true H') ∧ (∀ L H', F L → TK K H H' → HL K H' L → Q false H')
def KontA (K : PySem.W.Frag) (H : Hp) (Φ : List D → LL → Prop) (Q : List V → Hp → Prop) : Prop := ∀ ds L vs H', Φ ds L → TK K H H' → DRs K H' ds vs → HL K H' L → Q vs H'
structure EK (K : PySem.W.Frag) (H : Hp) (D' : EndsD) (D : Ends) : Prop where
  nx : ∀ σd L σ H', D'.nx σd L → TK K H H' → SR K H' σd σ → HL K H' L → D.nx σ H'
  rt : ∀ d L v H', D'.rt d L → TK K H H' → DR K H' d v → HL K H' L → D.rt v H'
  bk : ∀ σd L σ H', D'.bk σd L → TK K H H' → SR K H' σd σ → HL K H' L → D.bk σ H'
  ct : ∀ σd L σ H', D'.ct σd L → TK K H H' → SR K H' σd σ → HL K H' L → D.ct σ H'
section
variable {K : PySem.W.Frag} {H H1 : Hp}
theorem SR.mono (t : TK K H H1) : ∀ {σd σ}, SR K H σd σ → SR K H1 σd σ
  | _, _, .nil => .nil
  | _, _, .no r => .no (SR.mono t r)
  | _, _, .yes a r => .yes (a.mono t) (SR.mono t r)
theorem SR.set {d : D} {v : V} (r : DR K H d v) : ∀ {σd σ} (i : Nat), SR K H σd σ → SR K H (σd.set i (some d)) (σ.set i (some v))
  | _, _, _, .nil => .nil
  | _, _, 0, .no q => .yes r q
  | _, _, 0, .yes _ q => .yes r q
  | _, _, i + 1, .no q => .no (SR.set r i q)
  | _, _, i + 1, .yes a q => .yes a (SR.set r i q)
theorem Kont.mono {Φ Q} (t : TK K H H1) (k : Kont K H Φ Q) : Kont K H1 Φ Q := fun d L v H' h t1 r l => k d L v H' h (t.trans t1) r l
theorem KontB.mono {T F Q} (t : TK K H H1) (k : KontB K H T F Q) : KontB K H1 T F Q := ⟨fun L H' h t1 l => k.1 L H' h (t.trans t1) l, fun L H' h t1 l => k.2 L H' h (t.trans t1) l⟩
theorem KontA.mono {Φ Q} (t : TK K H H1) (k : KontA K H Φ Q) : KontA K H1 Φ Q := fun d L v H' h t1 r l => k d L v H' h (t.trans t1) r l
theorem EK.mono {D' D} (t : TK K H H1) (k : EK K H D' D) : EK K H1 D' D :=
  ⟨fun a b c d h t1 => k.nx a b c d h (t.trans t1), fun a b c d h t1 => k.rt a b c d h (t.trans t1), fun a b c d h t1 => k.bk a b c d h (t.trans t1), fun a b c d h t1 => k.ct a b c d h (t.trans t1)⟩
end
def liftE (K : PySem.W.Frag) (t : TE') : TE := fun σ H Q => ∃ σd L Φ, SR K H σd σ ∧ HL K H L ∧ t σd L Φ ∧ Kont K H Φ Q
def liftT (K : PySem.W.Frag) (t : TT') : TT := fun σ H Q => ∃ σd L T F, SR K H σd σ ∧ HL K H L ∧ t σd L T F ∧ KontB K H T F Q
def liftA (K : PySem.W.Frag) (t : TA') : TA := fun σ H Q => ∃ σd L Φ, SR K H σd σ ∧ HL K H L ∧ t σd L Φ ∧ KontA K H Φ Q
def liftS (K : PySem.W.Frag) (t : TS') : TS := fun D σ H => ∃ σd L D', SR K H σd σ ∧ HL K H L ∧ t D' σd L ∧ EK K H D' D
abbrev PE' (X : Cx) (e : Expr) (t : TE') : Prop := PE X e (liftE X.K t)
abbrev PT' (X : Cx) (e : Expr) (t : TT') : Prop := PT X e (liftT X.K t)
abbrev PA' (X : Cx) (es : List Expr) (t : TA') : Prop := PA X es (liftA X.K t)
abbrev PS' (X : Cx) (st : Stmt) (t : TS') : Prop := PS X st (liftS X.K t)
abbrev PSs' (X : Cx) (st : List Stmt) (t : TS') : Prop := PSs X st (liftS X.K t)
section
variable {X : Cx} {e : Expr} {es : List Expr} {st : Stmt} {sts : List Stmt}
theorem lE {t : TE} {t' : TE'} (h : PE X e t) (f : ∀ σ H Q, liftE X.K t' σ H Q → t σ H Q) : PE' X e t' := ⟨fun pins s σ H Q I q => h.run pins s σ H Q I (f σ H Q q)⟩
theorem lT {t : TT} {t' : TT'} (h : PT X e t) (f : ∀ σ H Q, liftT X.K t' σ H Q → t σ H Q) : PT' X e t' := ⟨fun pins s σ H Q I q => h.run pins s σ H Q I (f σ H Q q)⟩
theorem lA {t : TA} {t' : TA'} (h : PA X es t) (f : ∀ σ H Q, liftA X.K t' σ H Q → t σ H Q) : PA' X es t' := ⟨fun pos pins s σ H Q I q => h.run pos pins s σ H Q I (f σ H Q q)⟩
theorem lS {t : TS} {t' : TS'} (h : PS X st t) (f : ∀ D σ H, liftS X.K t' D σ H → t D σ H) : PS' X st t' := ⟨fun pins s σ H D I q => h.run pins s σ H D I (f D σ H q)⟩
theorem lSs {t : TS} {t' : TS'} (h : PSs X sts t) (f : ∀ D σ H, liftS X.K t' D σ H → t D σ H) : PSs' X sts t' := ⟨fun pins s σ H D I q => h.run pins s σ H D I (f D σ H q)⟩
end

/-! ### names, constants -/
def Nth : Sl → Nat → (D → Prop) → Prop
  | [], _, _ => False
  | none :: _, 0, _ => False
  | some d :: _, 0, k => k d
  | _ :: r, n + 1, k => Nth r n k
theorem Nth.get {K H} {k : D → Prop} : ∀ {σd σ} {i : Nat}, SR K H σd σ → Nth σd i k → ∃ d v, σ[i]? = some (some v) ∧ DR K H d v ∧ k d
  | _, _, _, .nil, h => by cases ‹Nat› <;> exact h.elim
  | _, _, 0, .no _, h => h.elim
  | _, _, 0, .yes r _, h => ⟨_, _, rfl, r, h⟩
  | _, _, i + 1, .no q, h => by
    obtain ⟨d, v, a, b, c⟩ := Nth.get (i := i) q h
    exact ⟨d, v, by simpa using a, b, c⟩
  | _, _, i + 1, .yes _ q, h => by
    obtain ⟨d, v, a, b, c⟩ := Nth.get (i := i) q h
    exact ⟨d, v, by simpa using a, b, c⟩
def tVar' (i : Nat) : TE' := fun σ L Φ => Nth σ i fun d => Φ d L
def tC' (d : D) : TE' := fun _ L Φ => Φ d L
section
variable {X : Cx} {pos : Pos} {x : Str}
theorem l_var {i : Nat} (h : PE X (.Name x pos) (tVar i)) : PE' X (.Name x pos) (tVar' i) := lE h fun σ H Q ⟨σd, L, Φ, hs, hl, ht, k⟩ => by
  obtain ⟨d, v, e, r, q⟩ := Nth.get hs ht
  exact ⟨v, e, k d L v H q .refl r hl⟩
theorem l_c {e : Expr} {d : D} {v : V} (h : PE X e (tC v)) (r : ∀ H, DR X.K H d v) : PE' X e (tC' d) := lE h fun σ H Q ⟨σd, L, Φ, hs, hl, ht, k⟩ => k d L v H ht .refl (r H) hl
theorem pv' (i : Nat) (hN : X.N[i]? = some x := by rfl) (hv : Vis X.env.scope x := by first | exact Or.inl rfl | exact Or.inr (Or.inl rfl) | exact Or.inr (Or.inr rfl)) (hd : (x == ("__debug__" : Str)) = false := by decide)
    (hcd : (x == ("__classdict__" : Str)) = false := by decide) : PE' X (.Name x pos) (tVar' i) := l_var (pe_var hN hv hd hcd)
theorem pe_int' {i j pos} : PE' X (.Constant (.int i) j pos) (tC' (.int i)) := l_c pe_int fun _ => .int
theorem pe_bl' {b j pos} : PE' X (.Constant (.bool b) j pos) (tC' (.bl b)) := l_c pe_bl fun _ => .bl
theorem pe_non' {j pos} : PE' X (.Constant .none j pos) (tC' .non) := l_c pe_non fun _ => .non
theorem pe_str' {x j pos} : PE' X (.Constant (.str x) j pos) (tC' (.str x)) := l_c pe_str fun _ => .str
theorem pe_gint {i : Int} (hg : Gl X x) (hm : ∃ t, X.mg x = some (.int i t)) (hd : (x == ("__debug__" : Str)) = false := by decide) : PE' X (.Name x pos) (tC' (.int i)) := by
  obtain ⟨t, hm⟩ := hm
  exact l_c (pe_glob (v := .int i) hg hm ⟨t, rfl⟩ hd) fun _ => .int
theorem pe_gtup {a : Addr} {ds : List D} {vs : List V} (hg : Gl X x) (hm : X.mg x = some (.ref a)) (hs : ∀ H, SqT X.K H a vs) (r : ∀ H, DRs X.K H ds vs) (hd : (x == ("__debug__" : Str)) = false := by decide) : PE' X (.Name x pos) (tC' (.tup ds)) :=
  l_c (pe_glob (v := .ref a) hg hm rfl hd) fun H => .tup (hs H) (r H)

/-! ### operators by values -/
abbrev F2 := D → D → LL → DK → Prop
def OpD (K : PySem.W.Frag) (f : F2) (r : R2) : Prop := ∀ (d1 d2 : D) (x y : V) (L : LL) (H : Hp) (Φ : DK) (Q : VK), DR K H d1 x → DR K H d2 y → HL K H L → f d1 d2 L Φ → Kont K H Φ Q → r x y H Q
def tBin' (f : F2) (ta tb : TE') : TE' := fun σ L Φ => ta σ L fun x L1 => tb σ L1 fun y L2 => f x y L2 Φ
theorem lift_bin {f : F2} {r : R2} {ta tb : TE'} {σ : L2.St} {H : Hp} {Q : VK} (od : OpD X.K f r) (h : liftE X.K (tBin' f ta tb) σ H Q) : tOp r (liftE X.K ta) (liftE X.K tb) σ H Q := by
  obtain ⟨σd, L, Φ, hs, hl, ht, k⟩ := h
  exact ⟨σd, L, _, hs, hl, ht, fun d L1 v H1 h1 t1 r1 l1 => ⟨σd, L1, _, hs.mono t1, l1, h1, fun d2 L2 v2 H2 h2 t2 r2 l2 => od _ _ _ _ _ _ _ _ (r1.mono t2) r2 l2 h2 (k.mono (t1.trans t2))⟩⟩
variable {a b c : Expr} {ta tb tc : TE'}
theorem pe_op' {op : Operator} {f : F2} {r : R2} (od : OpD X.K f r) (ho : OpR X (binaryOp op) r) (ha : PE' X a ta) (hb : PE' X b tb) : PE' X (.BinOp a op b pos) (tBin' f ta tb) :=
  lE (pe_op ho ha hb) fun _ _ _ h => lift_bin od h
theorem pe_cmp' {op : CmpOp} {f : F2} {r : R2} (od : OpD X.K f r) (ho : OpR X (compareOp op) r) (ha : PE' X a ta) (hb : PE' X b tb) (hm : behindInMarks op b = false) : PE' X (.Compare a [op] [b] pos) (tBin' f ta tb) :=
  lE (pe_cmpR ho ha hb hm) fun _ _ _ h => lift_bin od h
/-- a test of an expression whose value is a bool -/
def Bt (T F : LL → Prop) : DK := fun d L => match d with
  | .bl true => T L
  | .bl false => F L
  | _ => False
/-- .. where it may be open -/
structure Br (b : Bool) (T F : Prop) : Prop where
  pos : b = true → T
  neg : b = false → F
def BtD (T F : LL → Prop) : DK := fun d L => match d with
  | .bl b => Br b (T L) (F L)
  | _ => False
def tTst' (t : TE') : TT' := fun σ L T F => t σ L (BtD T F)
theorem kontBt {K H} {T F : LL → Prop} {Q : Bool → Hp → Prop} (k : KontB K H T F Q) : Kont K H (BtD T F) (fun x H' => ∃ c, x = .bl c ∧ Q c H') := fun d L v H' h t r l => by
  cases r with
  | bl =>
    rename_i b
    obtain ⟨h1, h2⟩ := (show Br b (T L) (F L) from h)
    cases b with
    | true => exact ⟨true, rfl, k.1 L H' (h1 rfl) t l⟩
    | false => exact ⟨false, rfl, k.2 L H' (h2 rfl) t l⟩
  | _ => exact (show False from h).elim
theorem pt_val' {e : Expr} {t : TE'} (h : PE' X e t) (he : ∀ whole, isTrue e X.env whole = (do let v ← whole; standAt e.pos; holding [v] (truthy v)) := by intro _; rfl) : PT' X e (tTst' t) :=
  lT (pt_val h he) fun σ H Q ⟨σd, L, T, F, hs, hl, ht, k⟩ => ⟨σd, L, _, hs, hl, ht, kontBt k⟩
theorem pt_cmp' {op : CmpOp} {f : F2} {r : R2} (od : OpD X.K f r) (ho : OpR X (compareOp op) r) (ha : PE' X a ta) (hb : PE' X b tb) (hm : behindInMarks op b = false) : PT' X (.Compare a [op] [b] pos) (tTst' (tBin' f ta tb)) :=
  lT (pt_cmpR ho ha hb hm) fun σ H Q ⟨σd, L, T, F, hs, hl, ht, k⟩ => by
    have z : liftE X.K (tBin' f ta tb) σ H (fun x H' => ∃ c, x = .bl c ∧ Q c H') := ⟨σd, L, _, hs, hl, ht, kontBt k⟩
    exact lift_bin od z
end
/-! ints -/
def fI (g : Int → Int → D) : F2 := fun x y L Φ => match x, y with
  | .int i, .int j => Φ (g i j) L
  | _, _ => False
def fIC (C : Int → Int → Prop) (g : Int → Int → D) : F2 := fun x y L Φ => match x, y with
  | .int i, .int j => C i j ∧ Φ (g i j) L
  | _, _ => False
theorem od_I {K} {g : Int → Int → V} {g' : Int → Int → D} (hg : ∀ i j H, DR K H (g' i j) (g i j)) : OpD K (fI g') (rI0 g) := fun d1 d2 x y L H Φ Q r1 r2 l h k => by
  cases r1 <;> cases r2 <;> first
    | exact (show False from h).elim
    | exact ⟨_, _, rfl, rfl, k _ _ _ _ h .refl (hg _ _ _) l⟩
theorem od_IC {K} {C : Int → Int → Prop} {g : Int → Int → V} {g' : Int → Int → D} (hg : ∀ i j H, DR K H (g' i j) (g i j)) : OpD K (fIC C g') (rI C g) := fun d1 d2 x y L H Φ Q r1 r2 l h k => by
  cases r1 <;> cases r2 <;> first
    | exact (show False from h).elim
    | exact ⟨_, _, rfl, rfl, (show _ ∧ _ from h).1, k _ _ _ _ (show _ ∧ _ from h).2 .refl (hg _ _ _) l⟩
end DL

namespace DL
open PySem PySem.Spec PyProof.Rows L2
theorem szl {n : Nat} (h : n ≤ 1000000) : n ≤ sizeLine := by rw [sizeLine_eq]; omega
theorem szl' {n : Nat} (h : n ≤ 1000000) : n < sizeLine := by rw [sizeLine_eq]; omega

/-! ### + -/
def rCatR (K : PySem.W.Frag) : R2 := fun x y H Q => ∃ l b xs zs, x = .ref l ∧ y = .ref b ∧ SqL K H l xs ∧ SqL K H b zs ∧ xs.length + zs.length ≤ sizeLine ∧ ∀ p, H p = none → Q (.ref p) (upd H p (.lst (xs ++ zs)))
section
variable {X : Cx}
theorem op_catR : OpR X (binaryOp .Add) (rCatR X.K) := by
  intro pins s σ H x y v u Q I rx ry h
  obtain ⟨l, b, xs, zs, rfl, rfl, hH, hB, hz, q⟩ := h
  cases rx
  cases ry
  obtain ⟨its, r, ⟨⟨cls, dd, data, sl⟩, n, ho, hc, hdd, hd⟩, z⟩ := I.list hH
  obtain ⟨its2, r2, ⟨⟨cls2, dd2, data2, sl2⟩, n2, ho2, hc2, hdd2, hd2⟩, z2⟩ := I.list hB
  simp only at hc hd hc2 hd2
  subst hc hd hc2 hd2
  have hl := r.length
  have hl2 := r2.length
  have ea : its.toArray ++ its2.toArray = (its ++ its2).toArray := by simp
  refine concat_meets ⟨_, ho, rfl⟩ ⟨_, ho2, rfl⟩ noFill_list_add seq_list_add PySem.F.slot_list_add PySem.F.entry_list_add (PySem.F.args_list_add_2 _ _) (list_addW l b its.toArray its2.toArray n n2 dd dd2 sl sl2 (by rw [List.size_toArray, List.size_toArray]; omega)) ⟨ho, ho2, ?_⟩
  rw [ea]
  exact ⟨.ref _, _, I.lnew (t' := s.toks) (r.append r2) (by rw [List.length_append]; omega), rfl, q _ I.fresh⟩
end
def rAddA (K : PySem.W.Frag) : R2 := fun x y H Q => rI0 (fun i j => .int (i + j)) x y H Q ∨ rCatR K x y H Q ∨ rCatA K x y H Q ∨ (∃ i j, x = .str i ∧ y = .str j ∧ i.length + j.length ≤ sizeLine ∧ Q (.str (i ++ j)) H) ∨ ∃ i k, x = .int i ∧ y = .bl k ∧ Q (.int (i + b2i k)) H
theorem op_addA {X : Cx} : OpR X (binaryOp .Add) (rAddA X.K) := op_add.or (op_catR.or (op_catA.or (op_add_str.or op_add_ib)))
/-- list + list, both as they stand -/
def catD (a b : Addr) (L : LL) (Φ : DK) : Prop := ∃ xs, HasL L a xs ∧ ∃ ys, HasL L b ys ∧ xs.length + ys.length ≤ 1000000 ∧ ∀ p, Φ (.ref p) ((p, .lst (xs ++ ys)) :: L)
def fAdd : F2 := fun x y L Φ => match x, y with
  | .int i, .int j => Φ (.int (i + j)) L
  | .ref a, .ref b => catD a b L Φ
  | .tup xs, .tup ys => xs.length + ys.length ≤ 1000000 ∧ Φ (.tup (xs ++ ys)) L
  | .str a, .str b => a.length + b.length ≤ 1000000 ∧ Φ (.str (a ++ b)) L
  | .int i, .bl k => Φ (.int (i + b2i k)) L
  | _, _ => False
section
variable {K : PySem.W.Frag} {H : Hp} {L : LL} {p : Addr}
theorem ok_lst {ds : List D} {vs : List V} (r : DRs K H ds vs) (hp : H p = none) : OKo K (upd H p (.lst vs)) p (.lst ds) := ⟨vs, upd_same, r.mono (TK.new hp)⟩
theorem HL.newl {ds : List D} {vs : List V} (h : HL K H L) (hp : H p = none) (r : DRs K H ds vs) : HL K (upd H p (.lst vs)) ((p, .lst ds) :: L) := h.new hp (ok_lst r hp)
theorem dr_newt {ds : List D} {vs : List V} (hp : H p = none) (r : DRs K H ds vs) : DR K (upd H p (.tup vs)) (.tup ds) (.ref p) := .tup (.inl (.inl upd_same)) (r.mono (TK.new hp))
theorem DRs.nil_iff {ds : List D} {vs : List V} (r : DRs K H ds vs) : ds = [] ↔ vs = [] := by cases r <;> simp
theorem od_add : OpD K fAdd (rAddA K) := fun d1 d2 x y L H Φ Q r1 r2 l h k => by
  cases r1 with
  | int =>
    cases r2 with
    | int => exact .inl ⟨_, _, rfl, rfl, k _ _ _ _ h .refl .int l⟩
    | bl => exact .inr (.inr (.inr (.inr ⟨_, _, rfl, rfl, k _ _ _ _ h .refl .int l⟩)))
    | _ => exact (show False from h).elim
  | str =>
    cases r2 with
    | str => exact .inr (.inr (.inr (.inl ⟨_, _, rfl, rfl, szl (show _ ∧ _ from h).1, k _ _ _ _ (show _ ∧ _ from h).2 .refl .str l⟩)))
    | _ => exact (show False from h).elim
  | ref =>
    cases r2 with
    | ref =>
      obtain ⟨xs, h1, ys, h2, hz, q⟩ := (show catD _ _ L Φ from h)
      obtain ⟨vs, e1, s1⟩ := l.seq h1
      obtain ⟨us, e2, s2⟩ := l.seq h2
      exact .inr (.inl ⟨_, _, vs, us, rfl, rfl, e1, e2, by rw [← s1.length, ← s2.length]; exact szl hz, fun p hp => k _ _ _ _ (q p) (TK.new hp) .ref (l.newl hp (s1.append s2))⟩)
    | _ => exact (show False from h).elim
  | tup s1 t1 =>
    cases r2 with
    | tup s2 t2 =>
      obtain ⟨hz, q⟩ := (show _ ∧ _ from h)
      refine .inr (.inr (.inl ⟨_, _, _, _, rfl, rfl, s1, s2, by rw [← t1.length, ← t2.length]; exact szl hz, fun e => ?_, fun e e2 => ?_, fun e e2 p hp => ?_⟩))
      · have e' := (DRs.nil_iff t1).mpr e
        subst e'
        exact k _ _ _ _ q .refl (.tup s2 t2) l
      · have e' := (DRs.nil_iff t2).mpr e2
        subst e'
        rw [List.append_nil] at q
        exact k _ _ _ _ q .refl (.tup s1 t1) l
      · exact k _ _ _ _ q (TK.new hp) (dr_newt hp (t1.append t2)) (l.mono_new hp)
    | _ => exact (show False from h).elim
  | _ => exact (show False from h).elim
end
section
variable {X : Cx} {K : PySem.W.Frag}
/-! ### the other operators of ints -/
def fSub : F2 := fI fun i j => .int (i - j)
theorem od_sub : OpD K fSub (rI0 fun i j => .int (i - j)) := od_I fun _ _ _ => .int
def MulOk (i j : Int) : Prop := CMul i j ∨ CMulW i j
def rMulA (K : PySem.W.Frag) : R2 := fun x y H Q => (∃ i j, x = .int i ∧ y = .int j ∧ CMul i j ∧ Q (.int (i * j)) H) ∨ (∃ i j, x = .int i ∧ y = .int j ∧ CMulW i j ∧ Q (.int (i * j)) H) ∨ rRep x y H Q
theorem op_mulA : OpR X (binaryOp .Mult) (rMulA X.K) := op_mul.or (op_mulW.or op_rep)
def repD (ds : List D) (k : Nat) : List D := (List.replicate k ds).flatten
theorem repD_one (d : D) : ∀ k : Nat, repD [d] k = List.replicate k d
  | 0 => rfl
  | k + 1 => by
    have ih := repD_one d k
    unfold repD at *
    rw [List.replicate_succ, List.flatten_cons, ih, List.replicate_succ]
    rfl
theorem DRs.rep {H : Hp} {ds : List D} {vs : List V} (r : DRs K H ds vs) : ∀ k : Nat, DRs K H (repD ds k) (List.replicate k vs).flatten
  | 0 => .nil
  | k + 1 => by
    unfold repD
    rw [List.replicate_succ, List.flatten_cons, List.replicate_succ, List.flatten_cons]
    exact r.append (DRs.rep r k)
def fMul : F2 := fun x y L Φ => match x, y with
  | .int i, .int j => MulOk i j ∧ Φ (.int (i * j)) L
  | .ref a, .int k => ∃ ds, Has L a (.lst ds) ∧ (k ≤ 1000000 ∧ -1000000 ≤ k ∧ ds.length * k.toNat ≤ 1000000) ∧ ∀ p, Φ (.ref p) ((p, .lst (repD ds k.toNat)) :: L)
  | _, _ => False
theorem od_mul : OpD K fMul (rMulA K) := fun d1 d2 x y L H Φ Q r1 r2 l h k => by
  cases r1 with
  | int =>
    cases r2 with
    | int =>
      obtain ⟨c, q⟩ := (show MulOk _ _ ∧ _ from h)
      rcases c with c | c
      · exact .inl ⟨_, _, rfl, rfl, c, k _ _ _ _ q .refl .int l⟩
      · exact .inr (.inl ⟨_, _, rfl, rfl, c, k _ _ _ _ q .refl .int l⟩)
    | _ => exact (show False from h).elim
  | ref =>
    cases r2 with
    | int =>
      obtain ⟨ds, h1, ⟨c1, c2, c3⟩, q⟩ := (show ∃ ds, _ from h)
      obtain ⟨vs, e, r⟩ := l.lst h1
      have hl := r.length
      refine .inr (.inr ⟨_, _, vs, rfl, rfl, e, by omega, by omega, by rw [← hl]; exact szl c3, fun p hp => k _ _ _ _ (q p) (TK.new hp) .ref (l.newl hp (r.rep _))⟩)
    | _ => exact (show False from h).elim
  | _ => exact (show False from h).elim
def DivOk (j : Int) : Prop := 0 < j ∧ j.natAbs.log2 < 9000
def fFdiv : F2 := fIC (fun _ j => DivOk j) fun i j => .int (i / j)
theorem od_fdiv : OpD K fFdiv (rI CDivW fun i j => .int (i / j)) := od_IC fun _ _ _ => .int
def fMod : F2 := fIC (fun _ j => 0 < j) fun i j => .int (i % j)
theorem od_mod : OpD K fMod (rI (fun _ j => 0 < j) fun i j => .int (i % j)) := od_IC fun _ _ _ => .int
def fPow : F2 := fIC CPow fun i j => .int (i ^ j.toNat)
theorem od_pow : OpD K fPow (rI CPow fun i j => .int (i ^ j.toNat)) := od_IC fun _ _ _ => .int
def fShr : F2 := fIC (fun _ j => 0 ≤ j) fun i j => .int (i / 2 ^ j.toNat)
theorem od_shr : OpD K fShr (rI (fun _ j => 0 ≤ j) fun i j => .int (i / 2 ^ j.toNat)) := od_IC fun _ _ _ => .int
def fShl : F2 := fIC CPow fun i j => .int (i * 2 ^ j.toNat)
theorem od_shl : OpD K fShl (rI CPow fun i j => .int (i * 2 ^ j.toNat)) := od_IC fun _ _ _ => .int
def fBand : F2 := fI fun i j => .int (Builtin.bitAnd i j)
theorem od_band : OpD K fBand (rI0 fun i j => .int (Builtin.bitAnd i j)) := od_I fun _ _ _ => .int
/-! ### comparisons -/
def fLt : F2 := fI fun i j => .bl (decide (i < j))
theorem od_lt : OpD K fLt (rI0 fun i j => .bl (decide (i < j))) := od_I fun _ _ _ => .bl
def fLe : F2 := fI fun i j => .bl (decide (i ≤ j))
theorem od_le : OpD K fLe (rI0 fun i j => .bl (decide (i ≤ j))) := od_I fun _ _ _ => .bl
def fGt : F2 := fI fun i j => .bl (decide (j < i))
theorem od_gt : OpD K fGt (rI0 fun i j => .bl (decide (j < i))) := od_I fun _ _ _ => .bl
def fGe : F2 := fI fun i j => .bl (decide (j ≤ i))
theorem od_ge : OpD K fGe (rI0 fun i j => .bl (decide (j ≤ i))) := od_I fun _ _ _ => .bl
def isNon : D → Bool
  | .non => true
  | _ => false
theorem isNon_dr {H : Hp} {d : D} {v : V} (r : DR K H d v) : decide (v = .non) = isNon d := by cases r <;> simp [isNon]
def fIs : F2 := fun x y L Φ => match y with
  | .non => Φ (.bl (isNon x)) L
  | _ => False
theorem od_is : OpD K fIs (fun x y H Q => y = .non ∧ Q (.bl (decide (x = .non))) H) := fun d1 d2 x y L H Φ Q r1 r2 l h k => by
  cases r2 with
  | non => exact ⟨rfl, k _ _ _ _ (show Φ (.bl (isNon d1)) L from h) .refl (by rw [isNon_dr r1]; exact .bl) l⟩
  | _ => exact (show False from h).elim
def fIsNot : F2 := fun x y L Φ => match y with
  | .non => Φ (.bl (!isNon x)) L
  | _ => False
theorem od_isnot : OpD K fIsNot (fun x y H Q => y = .non ∧ Q (.bl (!decide (x = .non))) H) := fun d1 d2 x y L H Φ Q r1 r2 l h k => by
  cases r2 with
  | non => exact ⟨rfl, k _ _ _ _ (show Φ (.bl (!isNon d1)) L from h) .refl (by rw [isNon_dr r1]; exact .bl) l⟩
  | _ => exact (show False from h).elim
/-! data at any depth -/
mutual
inductive DpD (L : LL) : Nat → D → PyData → Prop
  | non {n} : DpD L n .non .none
  | bl {n b} : DpD L n (.bl b) (.bool b)
  | int {n i} : DpD L n (.int i) (.int i)
  | str {n x} : PyData.strOk x = true → DpD L n (.str x) (.str x)
  | tup {n ds ps} : DpDs L n ds ps → DpD L (n + 1) (.tup ds) (.tuple ps)
  | lst {n a ds ps} : HasL L a ds → DpDs L n ds ps → DpD L (n + 1) (.ref a) (.list ps)
inductive DpDs (L : LL) : Nat → List D → List PyData → Prop
  | nil {n} : DpDs L n [] []
  | cons {n d ds p ps} : DpD L n d p → DpDs L n ds ps → DpDs L n (d :: ds) (p :: ps)
end
section
variable {H : Hp} {L : LL}
mutual
theorem DpD.dp (l : HL K H L) : ∀ {n : Nat} {d : D} {p : PyData} {v : V}, DpD L n d p → DR K H d v → Dp K H v p
  | _, _, _, _, .non, .non => .non
  | _, _, _, _, .bl, .bl => .bl _
  | _, _, _, _, .int, .int => .int _
  | _, _, _, _, .str _, .str => .str _
  | _, _, _, _, .tup t, .tup s r => .tup s (DpDs.dp l t r)
  | _, _, _, _, .lst h t, .ref => by
    obtain ⟨vs, e, r⟩ := l.seq h
    exact .lst e (DpDs.dp l t r)
theorem DpDs.dp (l : HL K H L) : ∀ {n : Nat} {ds : List D} {ps : List PyData} {vs : List V}, DpDs L n ds ps → DRs K H ds vs → DpAll K H vs ps
  | _, _, _, _, .nil, .nil => .nil
  | _, _, _, _, .cons a b, .cons r t => .cons (DpD.dp l a r) (DpDs.dp l b t)
end
mutual
theorem DpD.lay : ∀ {n : Nat} {d : D} {p : PyData}, DpD L n d p → p.canLay0 = true ∧ p.depth ≤ n
  | _, _, _, .non => ⟨rfl, Nat.zero_le _⟩
  | _, _, _, .bl => ⟨rfl, Nat.zero_le _⟩
  | _, _, _, .int => ⟨rfl, Nat.zero_le _⟩
  | _, _, _, .str h => ⟨h, Nat.zero_le _⟩
  | _, _, _, .tup t => ⟨(DpDs.lay t).1, Nat.succ_le_succ (DpDs.lay t).2⟩
  | _, _, _, .lst _ t => ⟨(DpDs.lay t).1, Nat.succ_le_succ (DpDs.lay t).2⟩
theorem DpDs.lay : ∀ {n : Nat} {ds : List D} {ps : List PyData}, DpDs L n ds ps → PyData.canLayAll0 ps = true ∧ PyData.depthAll ps ≤ n
  | _, _, _, .nil => ⟨rfl, Nat.zero_le _⟩
  | _, _, _, .cons a b => ⟨by
    rw [PyData.canLayAll0, (DpD.lay a).1, (DpDs.lay b).1]; rfl, Nat.max_le.mpr ⟨(DpD.lay a).2, (DpDs.lay b).2⟩⟩
end
theorem DpD.shaped {n : Nat} {d : D} {p : PyData} (h : DpD L n d p) (hn : n ≤ 64) : SeqAt.shaped p = true := by
  unfold SeqAt.shaped
  rw [h.lay.1, decide_eq_true (Nat.le_trans h.lay.2 hn)]
  rfl
theorem DpDs.ints {n : Nat} : ∀ xs : List Int, DpDs L n (xs.map .int) (xs.map .int)
  | [] => .nil
  | _ :: r => .cons .int (DpDs.ints r)
theorem DpDs.append {n : Nat} : ∀ {ds es : List D} {ps qs : List PyData}, DpDs L n ds ps → DpDs L n es qs → DpDs L n (ds ++ es) (ps ++ qs)
  | _, _, _, _, .nil, b => b
  | _, _, _, _, .cons a r, b => .cons a (DpDs.append r b)
end
inductive deepE (x y : D) (L : LL) (k : Bool → Prop) : Prop
  | mk (p q : PyData) : DpD L 9 x p → DpD L 9 y q → k (PyData.eqv p q) → deepE x y L k
def fEq : F2 := fun x y L Φ => match x, y with
  | .int i, .int j => Φ (.bl (decide (i = j))) L
  | .str i, .str j => Φ (.bl (decide (i = j))) L
  | .bl i, .bl j => Φ (.bl (decide (i = j))) L
  | x, y => deepE x y L fun b => Φ (.bl b) L
def fNe : F2 := fun x y L Φ => match x, y with
  | .int i, .int j => Φ (.bl (!decide (i = j))) L
  | .str i, .str j => Φ (.bl (!decide (i = j))) L
  | .bl i, .bl j => Φ (.bl (!decide (i = j))) L
  | x, y => deepE x y L fun b => Φ (.bl (!b)) L
def rEqA (K : PySem.W.Frag) : R2 := fun x y H Q => rEq x y H Q ∨ rEqD K x y H Q
def rNeA (K : PySem.W.Frag) : R2 := fun x y H Q => rNe x y H Q ∨ rNeD K x y H Q
theorem op_eqA (hu : X.A.units + 64 < cLine) : OpR X (compareOp .Eq) (rEqA X.K) := op_eq.or (op_eqD hu)
theorem op_neA (hu : X.A.units + 64 < cLine) : OpR X (compareOp .NotEq) (rNeA X.K) := op_ne.or (op_neD hu)
theorem deep_eq {d1 d2 : D} {x y : V} {L : LL} {H : Hp} {Q : VK} {k : Bool → Prop} (r1 : DR K H d1 x) (r2 : DR K H d2 y) (l : HL K H L) (h : deepE d1 d2 L k) (q : ∀ b, k b → Q (.bl b) H) : rEqD K x y H Q := by
  obtain ⟨p, p', h1, h2, q'⟩ := h
  exact ⟨p, p', h1.dp l r1, h2.dp l r2, h1.shaped (by decide), h2.shaped (by decide), q _ q'⟩
theorem deep_ne {d1 d2 : D} {x y : V} {L : LL} {H : Hp} {Q : VK} {k : Bool → Prop} (r1 : DR K H d1 x) (r2 : DR K H d2 y) (l : HL K H L) (h : deepE d1 d2 L k) (q : ∀ b, k b → Q (.bl (!b)) H) : rNeD K x y H Q := by
  obtain ⟨p, p', h1, h2, q'⟩ := h
  exact ⟨p, p', h1.dp l r1, h2.dp l r2, h1.shaped (by decide), h2.shaped (by decide), q _ q'⟩
theorem od_eq : OpD K fEq (rEqA K) := fun d1 d2 x y L H Φ Q r1 r2 l h k => by
  have deep : deepE d1 d2 L (fun b => Φ (.bl b) L) → rEqA K x y H Q := fun z => .inr (deep_eq r1 r2 l z fun b q => k _ _ _ _ q .refl .bl l)
  cases r1 <;> cases r2 <;> first
    | exact deep h
    | exact .inl ⟨rfl, k _ _ _ _ h .refl (by simp; exact .bl) l⟩
theorem od_ne : OpD K fNe (rNeA K) := fun d1 d2 x y L H Φ Q r1 r2 l h k => by
  have deep : deepE d1 d2 L (fun b => Φ (.bl (!b)) L) → rNeA K x y H Q := fun z => .inr (deep_ne r1 r2 l z fun b q => k _ _ _ _ q .refl .bl l)
  cases r1 <;> cases r2 <;> first
    | exact deep h
    | exact .inl ⟨rfl, k _ _ _ _ h .refl (by simp; exact .bl) l⟩
end
end DL

namespace DL
open PySem PySem.Spec PyProof.Rows L2
section
variable {X : Cx} {a b c e : Expr} {ta tb tc te : TE'} {tp tq : TT'} {pos : Pos} {rest es : List Expr}
/-! ### tests: and, or, not -/
def tAnd' (t u : TT') : TT' := fun σ L T F => t σ L (fun L1 => u σ L1 T F) F
def tOr' (t u : TT') : TT' := fun σ L T F => t σ L T (fun L1 => u σ L1 T F)
def tNot' (t : TT') : TT' := fun σ L T F => t σ L F T
theorem lift_and {σ : L2.St} {H : Hp} {Q : Bool → Hp → Prop} (h : liftT X.K (tAnd' tp tq) σ H Q) : tAnd (liftT X.K tp) (liftT X.K tq) σ H Q := by
  obtain ⟨σd, L, T, F, hs, hl, ht, k⟩ := h
  refine ⟨σd, L, _, _, hs, hl, ht, fun L1 H1 q t l => ?_, fun L1 H1 q t l => ?_⟩
  · refine iteT ?_
    exact ⟨σd, L1, T, F, hs.mono t, l, q, k.mono t⟩
  · refine iteF ?_
    exact k.2 L1 H1 q t l
theorem lift_or {σ : L2.St} {H : Hp} {Q : Bool → Hp → Prop} (h : liftT X.K (tOr' tp tq) σ H Q) : tOr (liftT X.K tp) (liftT X.K tq) σ H Q := by
  obtain ⟨σd, L, T, F, hs, hl, ht, k⟩ := h
  refine ⟨σd, L, _, _, hs, hl, ht, fun L1 H1 q t l => ?_, fun L1 H1 q t l => ?_⟩
  · refine iteT ?_
    exact k.1 L1 H1 q t l
  · refine iteF ?_
    exact ⟨σd, L1, T, F, hs.mono t, l, q, k.mono t⟩
def PW' (X : Cx) (e : Expr) (t : TT') : Prop := PW X e (liftT X.K t)
theorem pw_and1' (h : PT' X a tp) : PW' X (.BoolOp .And [a] pos) tp := pw_and1 h
theorem pw_or1' (h : PT' X a tp) : PW' X (.BoolOp .Or [a] pos) tp := pw_or1 h
theorem pw_and' (h : PT' X a tp) (h2 : PW' X (.BoolOp .And (b :: rest) pos) tq) : PW' X (.BoolOp .And (a :: b :: rest) pos) (tAnd' tp tq) :=
  ⟨fun w pins s σ H Q I q => (pw_and h h2).run w pins s σ H Q I (lift_and q)⟩
theorem pw_or' (h : PT' X a tp) (h2 : PW' X (.BoolOp .Or (b :: rest) pos) tq) : PW' X (.BoolOp .Or (a :: b :: rest) pos) (tOr' tp tq) :=
  ⟨fun w pins s σ H Q I q => (pw_or h h2).run w pins s σ H Q I (lift_or q)⟩
theorem PW'.pt {e : Expr} (h : PW' X e tp) : PT' X e tp := PW.pt h
theorem pt_not' (h : PT' X a tp) : PT' X (.UnaryOp .Not a pos) (tNot' tp) := lT (pt_not h) fun σ H Q ⟨σd, L, T, F, hs, hl, ht, k⟩ =>
  ⟨σd, L, _, _, hs, hl, ht, fun L1 H1 q t l => k.2 L1 H1 q t l, fun L1 H1 q t l => k.1 L1 H1 q t l⟩
/-! truth of a value -/
/-- k: the value's truth, then what follows -/
def truD (d : D) (L : LL) (k : Bool → Prop) : Prop := match d with
  | .non => k false
  | .bl b => k b
  | .int i => k (i != 0)
  | .ref a => ∃ ds, HasL L a ds ∧ k (!ds.isEmpty)
  | .tup ds => k (!ds.isEmpty)
  | _ => False
theorem empty_dr {K : PySem.W.Frag} {H : Hp} {ds : List D} {vs : List V} (r : DRs K H ds vs) : (!vs.isEmpty) = !ds.isEmpty := by cases r <;> rfl
theorem truD.ok {K : PySem.W.Frag} {H : Hp} {L : LL} {d : D} {v : V} {k : Bool → Prop} (r : DR K H d v) (l : HL K H L) (h : truD d L k) : ∃ b, TruV K v H b ∧ k b := by
  cases r with
  | non => exact ⟨_, rfl, h⟩
  | bl => exact ⟨_, rfl, h⟩
  | int => exact ⟨_, rfl, h⟩
  | ref =>
    obtain ⟨ds, h1, q⟩ := (show ∃ ds, _ from h)
    obtain ⟨vs, e, r⟩ := l.seq h1
    exact ⟨!vs.isEmpty, .inl ⟨vs, e, rfl⟩, by rw [empty_dr r]; exact q⟩
  | tup s t =>
    refine ⟨_, .inr (.inl ⟨_, s, rfl⟩), ?_⟩
    rw [empty_dr t]
    exact h
  | _ => exact (show False from h).elim
def tTru' (t : TE') : TT' := fun σ L T F => t σ L fun d L1 => truD d L1 fun b => Br b (T L1) (F L1)
theorem br_k {K : PySem.W.Frag} {H : Hp} {T F : LL → Prop} {Q : Bool → Hp → Prop} {b : Bool} {L : LL} {H' : Hp} (k : KontB K H T F Q) (h : Br b (T L) (F L)) (t : TK K H H') (l : HL K H' L) : Q b H' := by
  cases b with
  | true => exact k.1 L H' (h.1 rfl) t l
  | false => exact k.2 L H' (h.2 rfl) t l
theorem pt_tru' (h : PE' X a ta) (he : ∀ whole, isTrue a X.env whole = (do let v ← whole; standAt a.pos; holding [v] (truthy v)) := by intro _; rfl) : PT' X a (tTru' ta) :=
  lT (pt_truth h he) fun σ H Q ⟨σd, L, T, F, hs, hl, ht, k⟩ => ⟨σd, L, _, hs, hl, ht, fun d L1 v H1 q t r l => by
    obtain ⟨b, h1, h2⟩ := truD.ok r l q
    exact ⟨b, h1, br_k k h2 t l⟩⟩
/-! ### and, or, not, if as values -/
def tAndV' (t u : TE') : TE' := fun σ L Φ => t σ L fun d L1 => truD d L1 fun b => Br b (u σ L1 Φ) (Φ d L1)
def tOrV' (t u : TE') : TE' := fun σ L Φ => t σ L fun d L1 => truD d L1 fun b => Br b (Φ d L1) (u σ L1 Φ)
def tNotV' (t : TE') : TE' := fun σ L Φ => t σ L fun d L1 => truD d L1 fun b => Φ (.bl (!b)) L1
theorem pe_one' {op : BoolOp} (h : PE' X a ta) : PE' X (.BoolOp op [a] pos) ta := pe_one h
theorem pe_and' (h : PE' X a ta) (h2 : PE' X (.BoolOp .And (b :: rest) pos) tb) : PE' X (.BoolOp .And (a :: b :: rest) pos) (tAndV' ta tb) :=
  lE (pe_andT h h2) fun σ H Q ⟨σd, L, Φ, hs, hl, ht, k⟩ => ⟨σd, L, _, hs, hl, ht, fun d L1 v H1 q t r l => by
    obtain ⟨b, h1, h2⟩ := truD.ok r l q
    refine ⟨b, h1, ?_⟩
    cases b with
    | true => refine iteT ?_; exact ⟨σd, L1, Φ, hs.mono t, l, h2.1 rfl, k.mono t⟩
    | false => refine iteF ?_; exact k _ _ _ _ (h2.2 rfl) t r l⟩
theorem pe_or' (h : PE' X a ta) (h2 : PE' X (.BoolOp .Or (b :: rest) pos) tb) : PE' X (.BoolOp .Or (a :: b :: rest) pos) (tOrV' ta tb) :=
  lE (pe_orT h h2) fun σ H Q ⟨σd, L, Φ, hs, hl, ht, k⟩ => ⟨σd, L, _, hs, hl, ht, fun d L1 v H1 q t r l => by
    obtain ⟨b, h1, h2⟩ := truD.ok r l q
    refine ⟨b, h1, ?_⟩
    cases b with
    | true => refine iteT ?_; exact k _ _ _ _ (h2.1 rfl) t r l
    | false => refine iteF ?_; exact ⟨σd, L1, Φ, hs.mono t, l, h2.2 rfl, k.mono t⟩⟩
theorem pe_not' (h : PE' X a ta) : PE' X (.UnaryOp .Not a pos) (tNotV' ta) :=
  lE (pe_notT h) fun σ H Q ⟨σd, L, Φ, hs, hl, ht, k⟩ => ⟨σd, L, _, hs, hl, ht, fun d L1 v H1 q t r l => by
    obtain ⟨b, h1, h2⟩ := truD.ok r l q
    exact ⟨b, h1, k _ _ _ _ h2 t .bl l⟩⟩
def tIf' (t : TT') (u v : TE') : TE' := fun σ L Φ => t σ L (fun L1 => u σ L1 Φ) (fun L1 => v σ L1 Φ)
theorem pe_ifExp' (hc : PT' X c tp) (ha : PE' X a ta) (hb : PE' X b tb) : PE' X (.IfExp c a b pos) (tIf' tp ta tb) :=
  lE (pe_ifExp hc ha hb) fun σ H Q ⟨σd, L, Φ, hs, hl, ht, k⟩ => ⟨σd, L, _, _, hs, hl, ht, fun L1 H1 q t l => by
    refine iteT ?_
    exact ⟨σd, L1, Φ, hs.mono t, l, q, k.mono t⟩, fun L1 H1 q t l => by
    refine iteF ?_
    exact ⟨σd, L1, Φ, hs.mono t, l, q, k.mono t⟩⟩
/-! ### unary minus -/
def tNeg' (t : TE') : TE' := fun σ L Φ => t σ L fun d L1 => match d with
  | .int i => Φ (.int (-i)) L1
  | _ => False
theorem pe_neg' (h : PE' X a ta) : PE' X (.UnaryOp .USub a pos) (tNeg' ta) :=
  lE (pe_un un_neg h) fun σ H Q ⟨σd, L, Φ, hs, hl, ht, k⟩ => ⟨σd, L, _, hs, hl, ht, fun d L1 v H1 q t r l => by
    cases r with
    | int => exact ⟨_, rfl, k _ _ _ _ q t .int l⟩
    | _ => exact (show False from q).elim⟩
/-! ### chains a < b < c -/
def tChain' (f g : F2) (ta tb tc : TE') : TE' := fun σ L Φ => ta σ L fun x L1 => tb σ L1 fun y L2 => f x y L2 fun z L3 => match z with
  | .bl k => Br k (tc σ L3 fun w L4 => g y w L4 Φ) (Φ (.bl false) L3)
  | _ => False
theorem lift_chain {op op' : CmpOp} {f g : F2} {r r' : R2} (od : OpD X.K f r) (od' : OpD X.K g r') {σ : L2.St} {H : Hp} {Q : VK} : liftE X.K (tChain' f g ta tb tc) σ H Q → tChain r r' (liftE X.K ta) (liftE X.K tb) (liftE X.K tc) σ H Q :=
  fun ⟨σd, L, Φ, hs, hl, ht, k⟩ => ⟨σd, L, _, hs, hl, ht, fun d L1 v H1 h1 t1 r1 l1 => ⟨σd, L1, _, hs.mono t1, l1, h1, fun d2 L2 v2 H2 h2 t2 r2 l2 =>
    od _ _ _ _ _ _ _ _ (r1.mono t2) r2 l2 h2 fun z L3 vz H3 h3 t3 r3 l3 => by
      cases r3 with
      | bl =>
        rename_i kb
        refine ⟨kb, rfl, ?_⟩
        cases kb with
        | true =>
          refine iteT ?_
          exact ⟨σd, L3, _, hs.mono ((t1.trans t2).trans t3), l3, (show Br _ _ _ from h3).1 rfl, fun d4 L4 v4 H4 h4 t4 r4 l4 => od' _ _ _ _ _ _ _ _ (r2.mono (t3.trans t4)) r4 l4 h4 (k.mono (((t1.trans t2).trans t3).trans t4))⟩
        | false =>
          refine iteF ?_
          exact k _ _ _ _ ((show Br _ _ _ from h3).2 rfl) ((t1.trans t2).trans t3) .bl l3
      | _ => exact (show False from h3).elim⟩⟩
theorem pe_chain' {op op' : CmpOp} {f g : F2} {r r' : R2} (od : OpD X.K f r) (od' : OpD X.K g r') (ho : OpR X (compareOp op) r) (ho' : OpR X (compareOp op') r') (ha : PE' X a ta) (hb : PE' X b tb) (hc : PE' X c tc)
    (hm : lastMarks [op, op'] [b, c] = false := by with_unfolding_all rfl) : PE' X (.Compare a [op, op'] [b, c] pos) (tChain' f g ta tb tc) :=
  lE (pe_chain ho ho' ha hb hc hm) fun σ H Q h => lift_chain (op := op) (op' := op') od od' h
theorem pt_chain' {op op' : CmpOp} {f g : F2} {r r' : R2} (od : OpD X.K f r) (od' : OpD X.K g r') (ho : OpR X (compareOp op) r) (ho' : OpR X (compareOp op') r') (ha : PE' X a ta) (hb : PE' X b tb) (hc : PE' X c tc)
    (hm : lastMarks [op, op'] [b, c] = false := by with_unfolding_all rfl) : PT' X (.Compare a [op, op'] [b, c] pos) (tTst' (tChain' f g ta tb tc)) :=
  lT (pt_chain ho ho' ha hb hc hm) fun σ H Q ⟨σd, L, T, F, hs, hl, ht, k⟩ => by
    have z : liftE X.K (tChain' f g ta tb tc) σ H (fun x H' => ∃ c, x = .bl c ∧ Q c H') := ⟨σd, L, _, hs, hl, ht, kontBt k⟩
    exact lift_chain (op := op) (op' := op') od od' z
/-! ### argument lists, tuples, lists -/
def tNil' : TA' := fun _ L Φ => Φ [] L
def tCons' (t : TE') (u : TA') : TA' := fun σ L Φ => t σ L fun d L1 => u σ L1 fun ds L2 => Φ (d :: ds) L2
theorem pa_nil' : PA' X [] tNil' := lA pa_nil fun σ H Q ⟨σd, L, Φ, hs, hl, ht, k⟩ => k _ _ _ _ ht .refl .nil hl
theorem pa_cons' {t : TA'} (h : PE' X e te) (h2 : PA' X es t) (hs : starEach (e :: es) X.env = (false, eval e X.env) :: starEach es X.env := by rfl) : PA' X (e :: es) (tCons' te t) :=
  lA (pa_cons h h2 hs) fun σ H Q ⟨σd, L, Φ, hs, hl, ht, k⟩ => ⟨σd, L, _, hs, hl, ht, fun d L1 v H1 h1 t1 r1 l1 => ⟨σd, L1, _, hs.mono t1, l1, h1, fun ds L2 vs H2 h2 t2 r2 l2 => k _ _ _ _ h2 (t1.trans t2) (.cons (r1.mono t2) r2) l2⟩⟩
def starD (d : D) (L : LL) (k : List D → Prop) : Prop := match d with
  | .ref a => ∃ ds, HasL L a ds ∧ k ds
  | .tup ds => k ds
  | _ => False
def tStar' (t : TE') (u : TA') : TA' := fun σ L Φ => t σ L fun d L1 => starD d L1 fun xs => u σ L1 fun ds L2 => Φ (xs ++ ds) L2
theorem pa_star' {t : TA'} {p : Pos} (h : PE' X e te) (h2 : PA' X es t) (hs : starEach (.Starred e p :: es) X.env = (true, eval e X.env) :: starEach es X.env := by rfl) : PA' X (.Starred e p :: es) (tStar' te t) :=
  lA (StX.pa_star h h2 hs) fun σ H Q ⟨σd, L, Φ, hs, hl, ht, k⟩ => ⟨σd, L, _, hs, hl, ht, fun d L1 v H1 h1 t1 r1 l1 => by
    cases r1 with
    | ref =>
      obtain ⟨ds, hh, q⟩ := (show ∃ ds, _ from h1)
      obtain ⟨vs, e, r⟩ := l1.seq hh
      exact ⟨_, vs, rfl, .inr e, σd, L1, _, hs.mono t1, l1, q, fun ds2 L2 vs2 H2 h2 t2 r2 l2 => k _ _ _ _ h2 (t1.trans t2) ((r.mono t2).append r2) l2⟩
    | tup s t =>
      exact ⟨_, _, rfl, .inl s, σd, L1, _, hs.mono t1, l1, h1, fun ds2 L2 vs2 H2 h2 t2 r2 l2 => k _ _ _ _ h2 (t1.trans t2) ((t.mono t2).append r2) l2⟩
    | _ => exact (show False from h1).elim⟩
def tTup' (t : TA') : TE' := fun σ L Φ => t σ L fun ds L1 => ds.length ≤ 1000000 ∧ Φ (.tup ds) L1
def tLst' (t : TA') : TE' := fun σ L Φ => t σ L fun ds L1 => ds.length ≤ 1000000 ∧ ∀ p, Φ (.ref p) ((p, .lst ds) :: L1)
theorem pe_tup' {t : TA'} {x1} (h : PA' X es t) : PE' X (.Tuple es x1 pos) (tTup' t) := lE (pe_tup h) fun σ H Q ⟨σd, L, Φ, hs, hl, ht, k⟩ => ⟨σd, L, _, hs, hl, ht, fun ds L1 vs H1 h1 t1 r1 l1 =>
  ⟨by rw [← r1.length]; exact szl h1.1, fun p hp => k _ _ _ _ h1.2 (t1.trans (TK.new hp)) (dr_newt hp r1) (l1.mono_new hp)⟩⟩
theorem pe_lst' {t : TA'} (h : PA' X es t) : PE' X (.List es pos) (tLst' t) := lE (pe_lst h) fun σ H Q ⟨σd, L, Φ, hs, hl, ht, k⟩ => ⟨σd, L, _, hs, hl, ht, fun ds L1 vs H1 h1 t1 r1 l1 =>
  ⟨by rw [← r1.length]; exact szl h1.1, fun p hp => k _ _ _ _ (h1.2 p) (t1.trans (TK.new hp)) .ref (l1.newl hp r1)⟩⟩
/-! ### attributes -/
def getF (f : Nat) (fs : List (Nat × D)) (k : D → Prop) : Prop := match getN f fs with
  | some d => k d
  | none => False
def tFld' (C : Addr) (f : Nat) (t : TE') : TE' := fun σ L Φ => t σ L fun d L1 => match d with
  | .ref a => ∃ fs, Has L1 a (.ins C fs) ∧ getF f fs fun d => Φ d L1
  | _ => False
theorem pe_fld' {C : Addr} {f : Nat} {x : Str} (cl : Cls X.K C) (na : NoAttr X.K C x) (h : PE' X e te) (hx : fname f = x := by rfl) (hf : f < fnames.length := by decide) (hb : attributeBase e x X.env (eval e X.env) = eval e X.env := by rfl) : PE' X (.Attribute e x pos) (tFld' C f te) :=
  lE (pe_fld h hb) fun σ H Q ⟨σd, L, Φ, hs, hl, ht, k⟩ => ⟨σd, L, _, hs, hl, ht, fun d L1 v H1 h1 t1 r1 l1 => by
    cases r1 with
    | ref =>
      obtain ⟨fs, h2, q⟩ := (show ∃ fs, _ from h1)
      obtain ⟨dx, gs, e1, r⟩ := l1.has h2
      unfold getF at q
      cases eg : getN f fs with
      | none => rw [eg] at q; exact q.elim
      | some d =>
        rw [eg] at q
        obtain ⟨v, lk, rv⟩ := r.get hf eg
        rw [hx] at lk
        exact ⟨_, C, dx, gs, v, rfl, e1, cl, na, lk, k _ _ _ _ q t1 rv l1⟩
    | _ => exact (show False from h1).elim⟩
/-! ### subscripts, slices -/
/-- the item at i -/
def itemD (ds : List D) (i : Int) (k : D → Prop) : Prop := ∃ d, atI ds i = some d ∧ k d
def fIx : F2 := fun x y L Φ => match x, y with
  | .ref a, .int i => ∃ ds, HasL L a ds ∧ itemD ds i fun d => Φ d L
  | .tup ds, .int i => itemD ds i fun d => Φ d L
  | _, _ => False
theorem atI_dr {K : PySem.W.Frag} {H : Hp} {ds : List D} {vs : List V} {i : Int} {d : D} (r : DRs K H ds vs) (h : atI ds i = some d) : ∃ v, atI vs i = some v ∧ DR K H d v := by
  unfold atI at *
  rw [← r.length]
  cases e : ixN ds.length i with
  | none => rw [e] at h; cases h
  | some j =>
    rw [e] at h
    exact r.get h
theorem od_ix {K : PySem.W.Frag} : OpD K fIx (rIx K) := fun d1 d2 x y L H Φ Q r1 r2 l h k => by
  cases r1 with
  | ref =>
    cases r2 with
    | int =>
      obtain ⟨ds, h1, d, h2, q⟩ := (show ∃ ds, _ from h)
      obtain ⟨vs, e, r⟩ := l.seq h1
      obtain ⟨v, h3, rv⟩ := atI_dr r h2
      exact .inl ⟨_, vs, _, v, rfl, rfl, e, h3, k _ _ _ _ q .refl rv l⟩
    | _ => exact (show False from h).elim
  | tup s t =>
    cases r2 with
    | int =>
      obtain ⟨d, h2, q⟩ := (show ∃ d, _ from h)
      obtain ⟨v, h3, rv⟩ := atI_dr t h2
      exact .inr (.inl ⟨_, _, _, v, rfl, rfl, s, h3, k _ _ _ _ q .refl rv l⟩)
    | _ => exact (show False from h).elim
  | _ => exact (show False from h).elim
theorem pe_ix' (ha : PE' X a ta) (hb : PE' X b tb) (hs : PlainIx b := by exact fun _ _ => rfl) : PE' X (.Subscript a b pos) (tBin' fIx ta tb) := lE (pe_ix ix_seq ha hb hs) fun _ _ _ h => lift_bin od_ix h
abbrev TO' := Sl → LL → (Option Int → LL → Prop) → Prop
def liftO (K : PySem.W.Frag) (t : TO') : TO := fun σ H Q => ∃ σd L Φ, SR K H σd σ ∧ HL K H L ∧ t σd L Φ ∧ ∀ o L' H', Φ o L' → TK K H H' → HL K H' L' → Q o H'
abbrev PO' (X : Cx) (e : Option Expr) (t : TO') : Prop := PO X e (liftO X.K t)
def tNoPart' : TO' := fun _ L Φ => Φ none L
def tPart' (t : TE') : TO' := fun σ L Φ => t σ L fun d L1 => match d with
  | .int i => Φ (some i) L1
  | _ => False
theorem po_none' : PO' X none tNoPart' := ⟨fun pins s σ H Q I ⟨σd, L, Φ, hs, hl, ht, k⟩ => po_none.run pins s σ H Q I (k _ _ _ ht .refl hl)⟩
theorem po_some' (h : PE' X e te) : PO' X (some e) (tPart' te) := ⟨fun pins s σ H Q I ⟨σd, L, Φ, hs, hl, ht, k⟩ => (po_some h).run pins s σ H Q I ⟨σd, L, _, hs, hl, ht, fun d L1 v H1 h1 t1 r1 l1 => by
  cases r1 with
  | int => exact ⟨_, rfl, k _ _ _ h1 t1 l1⟩
  | _ => exact (show False from h1).elim⟩⟩
def cutD (ds : List D) (lo hi : Option Int) : List D := (ds.drop (HT.sIx ds.length 0 lo)).take (HT.sIx ds.length ds.length hi - HT.sIx ds.length 0 lo)
theorem DRs.cut {K : PySem.W.Frag} {H : Hp} {ds : List D} {vs : List V} (r : DRs K H ds vs) (lo hi : Option Int) : DRs K H (cutD ds lo hi) (cutV vs lo hi) := by
  unfold cutD cutV
  rw [r.length]
  exact (r.drop _).take _
def tSl' (t : TE') (tl th : TO') : TE' := fun σ L Φ => t σ L fun d L1 => tl σ L1 fun lo L2 => th σ L2 fun hi L3 => match d with
  | .ref a => ∃ ds, HasL L3 a ds ∧ ∀ p, Φ (.ref p) ((p, .lst (cutD ds lo hi)) :: L3)
  | .tup ds => Φ (.tup (cutD ds lo hi)) L3
  | _ => False
theorem cut_whole {vs : List D} {lo hi : Option Int} (h : HT.sIx vs.length 0 lo = 0 ∧ HT.sIx vs.length vs.length hi = vs.length) : cutD vs lo hi = vs := by
  unfold cutD
  rw [h.1, h.2]
  simp
theorem pe_slice' {lo hi : Option Expr} {tl th : TO'} {p2 : Pos} (he : PE' X e te) (hl : PO' X lo tl) (hu : PO' X hi th) : PE' X (.Subscript e (.Slice lo hi none p2) pos) (tSl' te tl th) :=
  lE (pe_slice (sl_list.or sl_tupA) he hl hu) fun σ H Q ⟨σd, L, Φ, hs, hl, ht, k⟩ => ⟨σd, L, _, hs, hl, ht, fun d L1 v H1 h1 t1 r1 l1 => ⟨σd, L1, _, hs.mono t1, l1, h1, fun o L2 H2 h2 t2 l2 => ⟨σd, L2, _, hs.mono (t1.trans t2), l2, h2, fun o2 L3 H3 h3 t3 l3 => by
    cases r1 with
    | ref =>
      obtain ⟨ds, hh, q⟩ := (show ∃ ds, _ from h3)
      obtain ⟨vs, e, r⟩ := l3.seq hh
      exact .inl ⟨_, vs, rfl, e, fun p hp => k _ _ _ _ (q p) (((t1.trans t2).trans t3).trans (TK.new hp)) .ref (l3.newl hp (r.cut _ _))⟩
    | tup s t =>
      have s3 := (t2.trans t3).1 _ _ s
      have tt := t.mono (t2.trans t3)
      refine .inr ⟨_, _, rfl, s3, fun hw => ?_, fun hw p hp => k _ _ _ _ h3 (((t1.trans t2).trans t3).trans (TK.new hp)) (dr_newt hp (tt.cut _ _)) (l3.mono_new hp)⟩
      rw [← t.length] at hw
      exact k _ _ _ _ h3 ((t1.trans t2).trans t3) (by rw [cut_whole hw]; exact .tup s3 tt) l3
    | _ => exact (show False from h3).elim⟩⟩⟩
def tRevL' (t : TE') : TE' := fun σ L Φ => t σ L fun d L1 => match d with
  | .ref a => ∃ ds, HasL L1 a ds ∧ ∀ p, Φ (.ref p) ((p, .lst ds.reverse) :: L1)
  | _ => False
theorem pe_revL' {k : Nat} {p1 p2 p3 : Pos} (he : PE' X e te) : PE' X (.Subscript e (.Slice none none (some (.UnaryOp .USub (.Constant (.int 1) k p1) p2)) p3) pos) (tRevL' te) :=
  lE (pe_revL he) fun σ H Q ⟨σd, L, Φ, hs, hl, ht, k⟩ => ⟨σd, L, _, hs, hl, ht, fun d L1 v H1 h1 t1 r1 l1 => by
    cases r1 with
    | ref =>
      obtain ⟨ds, hh, q⟩ := (show ∃ ds, _ from h1)
      obtain ⟨vs, e, r⟩ := l1.seq hh
      exact ⟨_, vs, rfl, e, fun p hp => k _ _ _ _ (q p) (t1.trans (TK.new hp)) .ref (l1.newl hp r.reverse)⟩
    | _ => exact (show False from h1).elim⟩
end
end DL

namespace DL
open PySem PySem.Spec PyProof.Rows L2
theorem HL.chgl {K : PySem.W.Frag} {H : Hp} {L L' : LL} {a : Addr} {ds ds' : List D} {vs vs' : List V} (l : HL K H L) (c : Chg L a (.lst ds) (.lst ds') L') (e : H a = some (.lst vs)) (r : DRs K H ds' vs') : TK K H (upd H a (.lst vs')) ∧ HL K (upd H a (.lst vs')) L' := by
  have t : TK K H (upd H a (.lst vs')) := TK.chg e trivial
  exact ⟨t, l.chg c rfl e trivial ⟨_, upd_same, r.mono t⟩⟩
/-! ### targets -/
abbrev TG' := D → Sl → LL → (Sl → LL → Prop) → Prop
abbrev TGs' := List D → Sl → LL → (Sl → LL → Prop) → Prop
def KontG (K : PySem.W.Frag) (H : Hp) (Q' : Sl → LL → Prop) (Q : L2.St → Hp → Prop) : Prop := ∀ σd L σ H', Q' σd L → TK K H H' → SR K H' σd σ → HL K H' L → Q σ H'
theorem KontG.mono {K : PySem.W.Frag} {H H1 : Hp} {Q' Q} (t : TK K H H1) (k : KontG K H Q' Q) : KontG K H1 Q' Q := fun a b c d h t1 => k a b c d h (t.trans t1)
def liftG (K : PySem.W.Frag) (g : TG') : TG := fun v σ H Q => ∃ d σd L Q', DR K H d v ∧ SR K H σd σ ∧ HL K H L ∧ g d σd L Q' ∧ KontG K H Q' Q
def liftGs (K : PySem.W.Frag) (g : TGs') : TGs := fun vs σ H Q => ∃ ds σd L Q', DRs K H ds vs ∧ SR K H σd σ ∧ HL K H L ∧ g ds σd L Q' ∧ KontG K H Q' Q
abbrev PG' (X : Cx) (e : Expr) (g : TG') : Prop := PG X e (liftG X.K g)
abbrev PGs' (X : Cx) (es : List Expr) (g : TGs') : Prop := PGs X es (liftGs X.K g)
section
variable {X : Cx} {pos : Pos} {e : Expr} {es : List Expr} {te ta tb : TE'}
theorem lG {tg : Expr} {g : TG} {g' : TG'} (h : PG X tg g) (f : ∀ v σ H Q, liftG X.K g' v σ H Q → g v σ H Q) : PG' X tg g' := ⟨fun pins s σ H v u Q I r q => h.run pins s σ H v u Q I r (f v σ H Q q)⟩
theorem lGs {ts : List Expr} {g : TGs} {g' : TGs'} (h : PGs X ts g) (f : ∀ v σ H Q, liftGs X.K g' v σ H Q → g v σ H Q) : PGs' X ts g' := ⟨fun pins s σ H v u Q I r q => h.run pins s σ H v u Q I r (f v σ H Q q)⟩
def gName' (i : Nat) : TG' := fun d σ L k => k (σ.set i (some d)) L
theorem pg_name' {i : Nat} {x : Str} (hN : X.N.Nodup) (hi : X.N[i]? = some x := by rfl) (hx : Loc X.env.scope x := by first | exact Or.inl rfl | exact Or.inr rfl) (hf : X.fn x = true ∨ X.env.scope.names.lookup x = some .local := by first | exact .inl rfl | exact .inr rfl | assumption) : PG' X (.Name x pos) (gName' i) :=
  lG (pg_name hN hi hx hf) fun v σ H Q ⟨d, σd, L, Q', r, hs, hl, h, k⟩ => k _ L _ H h .refl (hs.set r i) hl
def gNil' : TGs' := fun ds σ L k => match ds with
  | [] => k σ L
  | _ => False
def gCons' (g : TG') (u : TGs') : TGs' := fun ds σ L k => match ds with
  | [] => False
  | d :: r => g d σ L fun σ1 L1 => u r σ1 L1 k
theorem pgs_nil' : PGs' X [] gNil' := lGs pgs_nil fun v σ H Q ⟨ds, σd, L, Q', r, hs, hl, h, k⟩ => by
  cases r with
  | nil => exact ⟨rfl, k _ _ _ _ h .refl hs hl⟩
  | cons _ _ => exact (show False from h).elim
theorem pgs_cons' {g : TG'} {u : TGs'} (h1 : PG' X e g) (h2 : PGs' X es u) (hs : (assignEach (e :: es) X.env).map (·.2) = assign e X.env :: (assignEach es X.env).map (·.2) := by rfl) : PGs' X (e :: es) (gCons' g u) :=
  lGs (pgs_cons h1 h2 hs) fun v σ H Q ⟨ds, σd, L, Q', r, hs, hl, h, k⟩ => by
    cases r with
    | nil => exact (show False from h).elim
    | cons r1 r2 => exact ⟨_, _, rfl, _, σd, L, _, r1, hs, hl, h, fun σ1 L1 σ' H' h2 t s l => ⟨_, σ1, L1, _, r2.mono t, s, l, h2, k.mono t⟩⟩
def gTup' (n : Nat) (gs : TGs') : TG' := fun d σ L k => match d with
  | .tup ds => ds.length = n ∧ gs ds σ L k
  | _ => False
theorem pg_tup' {n k : Nat} {g : TGs'} (hc : X.calm = true) (h : PGs' X es g) (hn : (assignEach es X.env).length = n := by rfl) (hst : (assignEach es X.env).findIdx? (·.1) = none := by rfl) : PG' X (.Tuple es k pos) (gTup' n g) :=
  lG (pg_tup hc h hn hst) fun v σ H Q ⟨d, σd, L, Q', r, hs, hl, h, k⟩ => by
    cases r with
    | tup s t => exact ⟨_, _, rfl, s, by rw [← t.length]; exact (show _ ∧ _ from h).1, _, σd, L, Q', t, hs, hl, (show _ ∧ _ from h).2, k⟩
    | _ => exact (show False from h).elim
/-- o[i] = v of a list -/
def setD (d i v : D) (L : LL) (k : LL → Prop) : Prop := match d, i with
  | .ref a, .int i => ∃ ds L' j, Chg L a (.lst ds) (.lst (ds.set j v)) L' ∧ ixN ds.length i = some j ∧ k L'
  | _, _ => False
def gSub' (to ti : TE') : TG' := fun v σ L k => to σ L fun o L1 => ti σ L1 fun i L2 => setD o i v L2 fun L3 => k σ L3
theorem pg_sub' (ho : PE' X e ta) {i : Expr} (hi : PE' X i tb)
    (ha : ∀ v, assign (.Subscript e i pos) X.env v = (do
      let ov ← holding [v] (eval e X.env)
      let iv ← holding [v, ov] (eval i X.env)
      standAt pos
      holding [v, ov, iv] (setItem ov iv v)
      release [v, ov, iv] []) := by intro _; rfl) : PG' X (.Subscript e i pos) (gSub' ta tb) :=
  lG (pg_sub ho hi set_list ha) fun v σ H Q ⟨d, σd, L, Q', r, hs, hl, h, k⟩ => ⟨σd, L, _, hs, hl, h, fun o L1 vo H1 h1 t1 r1 l1 => ⟨σd, L1, _, hs.mono t1, l1, h1, fun ix L2 vi H2 h2 t2 r2 l2 => by
    cases r1 with
    | ref =>
      cases r2 with
      | int =>
        obtain ⟨ds, L', j, c, hj, q⟩ := (show ∃ ds, _ from h2)
        obtain ⟨vs, e, rs⟩ := l2.lst c.has
        have t3 : TK X.K H2 (upd H2 _ (.lst (vs.set j v))) := TK.chg e trivial
        refine ⟨_, vs, _, j, rfl, rfl, e, by rw [← rs.length]; exact hj, k _ _ _ _ q ((t1.trans t2).trans t3) (hs.mono ((t1.trans t2).trans t3)) (l2.chg c rfl e trivial ⟨_, upd_same, (rs.set (r.mono (t1.trans t2)) j).mono t3⟩)⟩
      | _ => exact (show False from h2).elim
    | _ => exact (show False from h2).elim⟩⟩
/-! o[a:b] = v -/
def gSlc (to ta tb : TE) : TG := fun v σ H Q => to σ H fun o H1 => ta σ H1 fun x H2 => ∃ i, x = .int i ∧ tb σ H2 fun y H3 => ∃ j, y = .int j ∧ ∃ l b xs ys, o = .ref l ∧ v = .ref b ∧ H3 l = some (.lst xs) ∧ H3 b = some (.lst ys) ∧ l ≠ b ∧ 0 ≤ i ∧ i ≤ j ∧ j ≤ xs.length ∧ xs.length + ys.length ≤ sizeLine ∧
  Q σ (upd H3 l (.lst (xs.take i.toNat ++ ys ++ xs.drop j.toNat)))
theorem pg_slice {o a b : Expr} {to ta tb : TE} {p2 : Pos} (ho : PE X o to) (ha : PE X a ta) (hb : PE X b tb)
    (has : ∀ v, assign (.Subscript o (.Slice (some a) (some b) none p2) pos) X.env v = (do
      let ov ← holding [v] (eval o X.env)
      let iv ← holding [v, ov] (eval (.Slice (some a) (some b) none p2) X.env)
      standAt pos
      holding [v, ov, iv] (setItem ov iv v)
      release [iv, v, ov] []) := by intro _; rfl) : PG X (.Subscript o (.Slice (some a) (some b) none p2) pos) (gSlc to ta tb) := by
  refine ⟨fun pins s σ H v u Q I r h => ?_⟩
  rw [has]
  refine wpAny_bind (wpAny_holding (thn (ho.run pins s σ H _ I h) fun ov s1 ⟨x, H1, I1, r1, q1⟩ => ?_))
  refine wpAny_bind (wpAny_holding ?_)
  refine wpAny_Slice (thn ((po_some ha).run pins s1 σ H1 (fun o H2 => match o with
    | some i => tb σ H2 fun y H3 => ∃ j, y = .int j ∧ ∃ l b xs ys, x = .ref l ∧ v = .ref b ∧ H3 l = some (.lst xs) ∧ H3 b = some (.lst ys) ∧ l ≠ b ∧ 0 ≤ i ∧ i ≤ j ∧ j ≤ xs.length ∧ xs.length + ys.length ≤ sizeLine ∧
        Q σ (upd H3 l (.lst (xs.take i.toNat ++ ys ++ xs.drop j.toNat)))
    | none => False) I1 q1) fun vl s2 ⟨o2, H2, I2, pl, q2⟩ => ?_)
  cases o2 with
  | none => exact q2.elim
  | some i =>
    refine thn ((po_some hb).run pins s2 σ H2 (fun o H3 => match o with
      | some j => ∃ l b xs ys, x = .ref l ∧ v = .ref b ∧ H3 l = some (.lst xs) ∧ H3 b = some (.lst ys) ∧ l ≠ b ∧ 0 ≤ i ∧ i ≤ j ∧ j ≤ xs.length ∧ xs.length + ys.length ≤ sizeLine ∧
          Q σ (upd H3 l (.lst (xs.take i.toNat ++ ys ++ xs.drop j.toNat)))
      | none => False) I2 q2) fun vu s3 ⟨o3, H3, I3, pu, q3⟩ => ?_
    cases o3 with
    | none => exact q3.elim
    | some j =>
      obtain ⟨l, b, xs, ys, ex, ev, hl, hb', hne, h0, hij, hj, hz, q⟩ := q3
      subst ex ev
      cases r
      cases r1
      rw [evalPart_none]
      refine wpAny_pure ?_
      have I4 : Inv X pins σ H3 { s3 with heap := s3.heap.push { cls := .type "slice", data := .fields #[vl, vu, .none] } } := I3.kept (t' := s3.toks) fun b ob q => Heap.get?_push_of_some _ q
      refine wpAny_bind (wpAny_standAt (wpAny_bind (wpAny_holding ?_)))
      have ra : RelV (.int i) vl := by cases pl; exact ⟨_, rfl⟩
      have rc : RelV (.int j) vu := by cases pu; exact ⟨_, rfl⟩
      exact set_slice I4 hl hb' hne (Heap.IsSliceOf.new _ vl vu .none) ra rc h0 hij hj hz fun s' I5 => wpAny_release ⟨σ, _, I5, q⟩
/-- .. -/
def setS (o v : D) (i j : Int) (L : LL) (k : LL → Prop) : Prop := match o, v with
  | .ref l, .ref b => ∃ ys L0, Sel L b (.lst ys) L0 ∧ ∃ xs L1, Chg L0 l (.lst xs) (.lst (xs.take i.toNat ++ ys ++ xs.drop j.toNat)) L1 ∧ (0 ≤ i ∧ i ≤ j ∧ j ≤ xs.length ∧ xs.length + ys.length ≤ 1000000) ∧ k ((b, .lst ys) :: L1)
  | _, _ => False
def intD (d : D) (k : Int → Prop) : Prop := match d with
  | .int i => k i
  | _ => False
def gSlc' (to ta tb : TE') : TG' := fun v σ L k => to σ L fun o L1 => ta σ L1 fun x L2 => intD x fun i => tb σ L2 fun y L3 => intD y fun j => setS o v i j L3 fun L4 => k σ L4
theorem pg_slice' {a b : Expr} {to ta tb : TE'} {p2 : Pos} (ho : PE' X e to) (ha : PE' X a ta) (hb : PE' X b tb)
    (has : ∀ v, assign (.Subscript e (.Slice (some a) (some b) none p2) pos) X.env v = (do
      let ov ← holding [v] (eval e X.env)
      let iv ← holding [v, ov] (eval (.Slice (some a) (some b) none p2) X.env)
      standAt pos
      holding [v, ov, iv] (setItem ov iv v)
      release [iv, v, ov] []) := by intro _; rfl) : PG' X (.Subscript e (.Slice (some a) (some b) none p2) pos) (gSlc' to ta tb) :=
  lG (pg_slice ho ha hb has) fun v σ H Q ⟨d, σd, L, Q', r, hs, hl, h, k⟩ => ⟨σd, L, _, hs, hl, h, fun o L1 vo H1 h1 t1 r1 l1 => ⟨σd, L1, _, hs.mono t1, l1, h1, fun ix L2 vi H2 h2 t2 r2 l2 => by
    cases r2 with
    | int =>
      refine ⟨_, rfl, σd, L2, _, hs.mono (t1.trans t2), l2, h2, fun jx L3 vj H3 h3 t3 r3 l3 => ?_⟩
      cases r3 with
      | int =>
        refine ⟨_, rfl, ?_⟩
        cases r1 with
        | ref =>
          cases r with
          | @ref bb =>
            obtain ⟨ys, L0, hb, xs, L1, c0, ⟨z1, z2, z3, z4⟩, q⟩ := (show ∃ ys, _ from h3)
            replace l3 := l3.perm hb.perm
            have c := Chg.there (x := (bb, LO.lst ys)) c0
            have hne := ((List.pairwise_cons.mp l3.nd).1 _ c0.has.mem rfl rfl).symm
            obtain ⟨vs, e1, s1⟩ := l3.lst c.has
            obtain ⟨us, e2, s2⟩ := l3.lst Has.here
            have n1 := s1.length
            have n2 := s2.length
            have tt := (t1.trans t2).trans t3
            refine ⟨_, _, vs, us, rfl, rfl, e1, e2, hne, z1, z2, by omega, szl (by omega), ?_⟩
            obtain ⟨t4, l4⟩ := l3.chgl c e1 (((s1.take _).append s2).append (s1.drop _))
            exact k _ _ _ _ q (tt.trans t4) (hs.mono (tt.trans t4)) l4
          | _ => exact (show False from h3).elim
        | _ => exact (show False from h3).elim
      | _ => exact (show False from h3).elim
    | _ => exact (show False from h2).elim⟩⟩
/-! o.f = v as a target within a tuple is made by its own statement rule where it stands alone -/
/-! ### statements -/
theorem ek_nx {K : PySem.W.Frag} {H : Hp} {D' : EndsD} {D : Ends} (k : EK K H D' D) : KontG K H D'.nx D.nx := k.nx
def tAsg' (t : TE') (g : TG') : TS' := fun D σ L => t σ L fun d L1 => g d σ L1 D.nx
theorem ps_asg' {tg : Expr} {g : TG'} (he : PE' X e te) (hg : PG' X tg g) (hs : swapsWithSole [tg] e pos.line X.env = pure false := by rfl) (hw : swappedStores [tg] e X.env = pure none := by rfl)
    (h1 : (assignEach [tg] X.env).map (·.2) = [assign tg X.env] := by rfl) : PS' X (.Assign [tg] e pos) (tAsg' te g) :=
  lS (ps_asg he hg hs hw h1) fun D σ H ⟨σd, L, D', hs, hl, ht, k⟩ => ⟨σd, L, _, hs, hl, ht, fun d L1 v H1 h1 t1 r1 l1 => ⟨d, σd, L1, _, r1, hs.mono t1, l1, h1, KontG.mono t1 k.nx⟩⟩
theorem ps_set' {i : Nat} {x : Str} {pos' : Pos} (hN : X.N.Nodup) (he : PE' X e te) (hi : X.N[i]? = some x := by rfl) (hx : Loc X.env.scope x := by first | exact Or.inl rfl | exact Or.inr rfl) (hs : swapsWith e (some (.Name x pos')) pos.line X.env = pure false := by rfl)
    (hf : X.fn x = true ∨ X.env.scope.names.lookup x = some .local := by first | exact .inl rfl | exact .inr rfl | assumption) : PS' X (.Assign [.Name x pos'] e pos) (tAsg' te (gName' i)) :=
  lS (ps_set hN hi hx he hs hf) fun D σ H ⟨σd, L, D', hs, hl, ht, k⟩ => ⟨σd, L, _, hs, hl, ht, fun d L1 v H1 h1 t1 r1 l1 => k.nx _ _ _ _ h1 t1 ((hs.mono t1).set r1 i) l1⟩
def tPar' (i j : Nat) (t : TA') : TS' := fun D σ L => t σ L fun ds L1 => match ds with
  | [d, e] => D.nx ((σ.set i (some d)).set j (some e)) L1
  | _ => False
theorem ps_par' {i j : Nat} {x y : Str} {a b : Expr} {ta : TA'} {px py pt : Pos} {kt k2 pt2} (hc : X.calm = true) (hN : X.N.Nodup) (hij : i ≠ j) (ha : PA' X [a, b] ta) (hi : X.N[i]? = some x := by rfl) (hj : X.N[j]? = some y := by rfl)
    (hx : X.env.scope.names.lookup x = some .local := by rfl) (hy : X.env.scope.names.lookup y = some .local := by rfl)
    (hw : swappedStores [.Tuple [.Name x px, .Name y py] kt pt] (.Tuple [a, b] k2 pt2) X.env = pure (some [x, y]) := by rfl)
    (hs : swapsWithSole [.Tuple [.Name x px, .Name y py] kt pt] (.Tuple [a, b] k2 pt2) pos.line X.env = pure false := by rfl) :
    PS' X (.Assign [.Tuple [.Name x px, .Name y py] kt pt] (.Tuple [a, b] k2 pt2) pos) (tPar' i j ta) :=
  lS (ps_par hc hN hi hj hij hx hy ha hw hs) fun D σ H ⟨σd, L, D', hs, hl, ht, k⟩ => ⟨σd, L, _, hs, hl, ht, fun ds L1 vs H1 h1 t1 r1 l1 => by
    match ds, r1, h1 with
    | [_, _], .cons ra (.cons rb .nil), h1 => exact ⟨_, _, rfl, k.nx _ _ _ _ h1 t1 (((hs.mono t1).set ra i).set rb j) l1⟩
    | [], _, h1 => exact (show False from h1).elim
    | [_], _, h1 => exact (show False from h1).elim
    | _ :: _ :: _ :: _, _, h1 => exact (show False from h1).elim⟩
def tPar3' (i j l : Nat) (t : TA') : TS' := fun D σ L => t σ L fun ds L1 => match ds with
  | [d, e, f] => D.nx (((σ.set i (some d)).set j (some e)).set l (some f)) L1
  | _ => False
theorem ps_par3' {i j l : Nat} {x y z : Str} {a b c : Expr} {ta : TA'} {px py pz pt : Pos} {kt k2 pt2} (hc : X.calm = true) (hN : X.N.Nodup) (hij : i ≠ j) (hil : i ≠ l) (hjl : j ≠ l) (ha : PA' X [a, b, c] ta) (hi : X.N[i]? = some x := by rfl) (hj : X.N[j]? = some y := by rfl) (hl : X.N[l]? = some z := by rfl)
    (hx : X.env.scope.names.lookup x = some .local := by rfl) (hy : X.env.scope.names.lookup y = some .local := by rfl) (hz : X.env.scope.names.lookup z = some .local := by rfl)
    (hw : swappedStores [.Tuple [.Name x px, .Name y py, .Name z pz] kt pt] (.Tuple [a, b, c] k2 pt2) X.env = pure (some [x, y, z]) := by rfl)
    (hs : swapsWithSole [.Tuple [.Name x px, .Name y py, .Name z pz] kt pt] (.Tuple [a, b, c] k2 pt2) pos.line X.env = pure false := by rfl) :
    PS' X (.Assign [.Tuple [.Name x px, .Name y py, .Name z pz] kt pt] (.Tuple [a, b, c] k2 pt2) pos) (tPar3' i j l ta) :=
  lS (ps_par3 hc hN hi hj hl hij hil hjl hx hy hz ha hw hs) fun D σ H ⟨σd, L, D', hs, hl, ht, k⟩ => ⟨σd, L, _, hs, hl, ht, fun ds L1 vs H1 h1 t1 r1 l1 => by
    match ds, r1, h1 with
    | [_, _, _], .cons ra (.cons rb (.cons rc .nil)), h1 => exact ⟨_, _, _, rfl, k.nx _ _ _ _ h1 t1 ((((hs.mono t1).set ra i).set rb j).set rc l) l1⟩
    | [], _, h1 => exact (show False from h1).elim
    | [_], _, h1 => exact (show False from h1).elim
    | [_, _], _, h1 => exact (show False from h1).elim
    | _ :: _ :: _ :: _ :: _, _, h1 => exact (show False from h1).elim⟩
def tDrop' (t : TE') : TS' := fun D σ L => t σ L fun _ L1 => D.nx σ L1
theorem ps_expr' (he : PE' X e te) (hs : swapsWith e none pos.line X.env = pure false := by rfl) : PS' X (.Expr e pos) (tDrop' te) :=
  lS (ps_expr he hs) fun D σ H ⟨σd, L, D', hs, hl, ht, k⟩ => ⟨σd, L, _, hs, hl, ht, fun d L1 v H1 h1 t1 r1 l1 => k.nx _ _ _ _ h1 t1 (hs.mono t1) l1⟩
def tRet' (t : TE') : TS' := fun D σ L => t σ L D.rt
theorem ps_ret' (he : PE' X e te) : PS' X (.Return (some e) pos) (tRet' te) :=
  lS (ps_ret he) fun D σ H ⟨σd, L, D', hs, hl, ht, k⟩ => ⟨σd, L, _, hs, hl, ht, fun d L1 v H1 h1 t1 r1 l1 => k.rt _ _ _ _ h1 t1 r1 l1⟩
def tRetN' : TS' := fun D _ L => D.rt .non L
theorem ps_retN' : PS' X (.Return none pos) tRetN' := lS ps_retN fun D σ H ⟨σd, L, D', hs, hl, ht, k⟩ => k.rt _ _ _ _ ht .refl .non hl
def tNext' : TS' := fun D σ L => D.nx σ L
def tSeq' (t u : TS') : TS' := fun D σ L => t { D with nx := fun σ1 L1 => u D σ1 L1 } σ L
variable {st : Stmt} {sts : List Stmt} {t u : TS'}
theorem pss_nil' : PSs' X [] tNext' := lSs pss_nil fun D σ H ⟨σd, L, D', hs, hl, ht, k⟩ => k.nx _ _ _ _ ht .refl hs hl
theorem pss_cons' (h1 : PS' X st t) (h2 : PSs' X sts u) : PSs' X (st :: sts) (tSeq' t u) :=
  lSs (pss_cons h1 h2) fun D σ H ⟨σd, L, D', hs, hl, ht, k⟩ => ⟨σd, L, _, hs, hl, ht, fun σ1 L1 σ' H' h t1 s l => ⟨σ1, L1, D', s, l, h, k.mono t1⟩, k.rt, k.bk, k.ct⟩
theorem pss_one' (h1 : PS' X st t) : PSs' X [st] t := pss_one h1
theorem ps_pass' : PS' X (.Pass pos) tNext' := lS ps_pass fun D σ H ⟨σd, L, D', hs, hl, ht, k⟩ => k.nx _ _ _ _ ht .refl hs hl
def tBreak' : TS' := fun D σ L => D.bk σ L
theorem ps_break' : PS' X (.Break pos) tBreak' := lS ps_break fun D σ H ⟨σd, L, D', hs, hl, ht, k⟩ => k.bk _ _ _ _ ht .refl hs hl
def tCont' : TS' := fun D σ L => D.ct σ L
theorem ps_continue' : PS' X (.Continue pos) tCont' := lS ps_continue fun D σ H ⟨σd, L, D', hs, hl, ht, k⟩ => k.ct _ _ _ _ ht .refl hs hl
def tNever' : TS' := fun _ _ _ => False
theorem ps_never' : PS' X st tNever' := lS ps_never fun D σ H ⟨σd, L, D', hs, hl, ht, k⟩ => ht.elim
def tIfS' (c : TT') (t u : TS') : TS' := fun D σ L => c σ L (fun L1 => t D σ L1) (fun L1 => u D σ L1)
theorem ps_if' {c : Expr} {a b : List Stmt} {tc : TT'} (hc : PT' X c tc) (ha : PSs' X a t) (hb : PSs' X b u) : PS' X (.If c a b pos) (tIfS' tc t u) :=
  lS (ps_if hc ha hb) fun D σ H ⟨σd, L, D', hs, hl, ht, k⟩ => ⟨σd, L, _, _, hs, hl, ht, fun L1 H1 q t l => by
    refine iteT ?_
    exact ⟨σd, L1, D', hs.mono t, l, q, k.mono t⟩, fun L1 H1 q t l => by
    refine iteF ?_
    exact ⟨σd, L1, D', hs.mono t, l, q, k.mono t⟩⟩
/-! name op= e -/
def OpIp (K : PySem.W.Frag) (f : F2) (r : TIp) : Prop := OpD K f r
def tAug' (i : Nat) (t : TE') (f : F2) : TS' := fun D σ L => Nth σ i fun x => t σ L fun y L1 => f x y L1 fun z L2 => D.nx (σ.set i (some z)) L2
theorem ps_aug' {i : Nat} {x : Str} {op : Operator} {f : F2} {ti : TIp} {pos' : Pos} (hN : X.N.Nodup) (od : OpD X.K f ti) (ho : PIp X op ti) (he : PE' X e te) (hi : X.N[i]? = some x := by rfl) (hx : Loc X.env.scope x := by first | exact Or.inl rfl | exact Or.inr rfl)
    (hf : X.fn x = true ∨ X.env.scope.names.lookup x = some .local := by first | exact .inl rfl | exact .inr rfl | assumption) : PS' X (.AugAssign (.Name x pos') op e pos) (tAug' i te f) :=
  lS (ps_aug hN hi hx he ho hf) fun D σ H ⟨σd, L, D', hs, hl, ht, k⟩ => by
    obtain ⟨d, v, e1, r, q⟩ := Nth.get hs ht
    exact ⟨v, e1, σd, L, _, hs, hl, q, fun d2 L1 v2 H1 h1 t1 r1 l1 => od _ _ _ _ _ _ _ _ (r.mono t1) r1 l1 h1 fun z L2 vz H2 h2 t2 r2 l2 => k.nx _ _ _ _ h2 (t1.trans t2) ((hs.mono (t1.trans t2)).set r2 i) l2⟩
theorem od_ipadd {K : PySem.W.Frag} : OpD K (fI fun i j => .int (i + j)) (ipI fun i j => i + j) := fun d1 d2 x y L H Φ Q r1 r2 l h k => by
  cases r1 <;> cases r2 <;> first
    | exact (show False from h).elim
    | exact ⟨_, _, rfl, rfl, k _ _ _ _ h .refl .int l⟩
theorem od_ipsub {K : PySem.W.Frag} : OpD K (fI fun i j => .int (i - j)) (ipI fun i j => i - j) := fun d1 d2 x y L H Φ Q r1 r2 l h k => by
  cases r1 <;> cases r2 <;> first
    | exact (show False from h).elim
    | exact ⟨_, _, rfl, rfl, k _ _ _ _ h .refl .int l⟩
/-! o.f = e -/
def putD (C : Addr) (f : Nat) (o v : D) (L : LL) (k : LL → Prop) : Prop := match o with
  | .ref a => ∃ fs L', Chg L a (.ins C fs) (.ins C (putN f v fs)) L' ∧ Nat.ble fs.length 900 = true ∧ k L'
  | _ => False
def tFldS' (C : Addr) (f : Nat) (to tv : TE') : TS' := fun D σ L => tv σ L fun v L1 => to σ L1 fun o L2 => putD C f o v L2 fun L3 => D.nx σ L3
theorem ps_fld' {C : Addr} {f : Nat} {x : Str} {value : Expr} {tv : TE'} {pos' : Pos} (cl : Cls X.K C) (na : NoAttr X.K C x) (ha : PE' X e te) (hv : PE' X value tv) (hx : fname f = x := by rfl) (hf : f < fnames.length := by decide)
    (hs : swapsWith value (some (.Attribute e x pos')) pos.line X.env = pure false := by rfl) : PS' X (.Assign [.Attribute e x pos'] value pos) (tFldS' C f te tv) :=
  lS (ps_fld ha hv hs) fun D σ H ⟨σd, L, D', hs, hl, ht, k⟩ => ⟨σd, L, _, hs, hl, ht, fun d L1 v H1 h1 t1 r1 l1 => ⟨σd, L1, _, hs.mono t1, l1, h1, fun o L2 vo H2 h2 t2 r2 l2 => by
    cases r2 with
    | ref =>
      obtain ⟨fs, L', c, z, q⟩ := (show ∃ fs, _ from h2)
      obtain ⟨dx, gs, e1, r⟩ := l2.has c.has
      have t3 : TK X.K H2 (upd H2 _ (.ins C dx (putF x v gs))) := TK.chg e1 trivial
      have zz : fs.length ≤ 900 := Nat.le_of_ble_eq_true z
      refine ⟨_, C, dx, gs, rfl, e1, cl, na, by rw [← r.length]; omega, k.nx _ _ _ _ q ((t1.trans t2).trans t3) (hs.mono ((t1.trans t2).trans t3)) (l2.chg c rfl e1 trivial ⟨dx, _, upd_same, ?_⟩)⟩
      have z2 := (r.put hf (r1.mono t2)).mono t3
      rw [hx] at z2
      exact z2
    | _ => exact (show False from h2).elim⟩⟩
end
end DL

namespace DL
open PySem PySem.Spec PyProof.Rows L2
/-! ### weakening -/
inductive Sub : Sl → Sl → Prop
  | nil : Sub [] []
  | any {x σ τ} : Sub σ τ → Sub (x :: σ) (none :: τ)
  | same {x y σ τ} : x = y → Sub σ τ → Sub (x :: σ) (y :: τ)
theorem SR.sub {K : PySem.W.Frag} {H : Hp} : ∀ {σd τ : Sl} {σ : L2.St}, SR K H σd σ → Sub σd τ → SR K H τ σ
  | _, _, _, .nil, .nil => .nil
  | _, _, _, .no r, .any s => .no (SR.sub r s)
  | _, _, _, .yes _ r, .any s => .no (SR.sub r s)
  | _, _, _, .no r, .same e s => by subst e; exact .no (SR.sub r s)
  | _, _, _, .yes a r, .same e s => by subst e; exact .yes a (SR.sub r s)
theorem Sub.refl : ∀ σ : Sl, Sub σ σ
  | [] => .nil
  | _ :: r => .same rfl (Sub.refl r)
/-- from here to an assertion -/
def To (σ : Sl) (L : LL) (W : Sl → LL → Prop) : Prop := ∃ σ1 L1, Sub σ σ1 ∧ Cov L L1 ∧ W σ1 L1
theorem To.mk {σ σ1 : Sl} {L L1 : LL} {W : Sl → LL → Prop} (a : Sub σ σ1) (b : Cov L L1) (c : W σ1 L1) : To σ L W := ⟨σ1, L1, a, b, c⟩
/-! ### while -/
@[irreducible] def Nxt (W : Nat → Sl → LL → Prop) (m : Nat) : Sl → LL → Prop := fun σ' L' => ∃ m', m' < m ∧ To σ' L' (W m')
theorem Nxt.elim {W : Nat → Sl → LL → Prop} {m : Nat} {σ : Sl} {L : LL} (h : Nxt W m σ L) : ∃ m', m' < m ∧ To σ L (W m') := by
  unfold Nxt at h
  exact h
@[irreducible] def Nx1 (W : Nat → Sl → LL → Prop) (i : Nat) : Sl → LL → Prop := fun σ' L' => To σ' L' (W (i + 1))
theorem Nx1.elim {W : Nat → Sl → LL → Prop} {m : Nat} {σ : Sl} {L : LL} (h : Nx1 W m σ L) : To σ L (W (m + 1)) := by
  unfold Nx1 at h
  exact h
@[irreducible] def WhileI (c : TT') (tb : TS') (D : EndsD) (σ : Sl) (L : LL) : Prop := ∃ W : Nat → Sl → LL → Prop, (∃ m, To σ L (W m)) ∧ ∀ m σ L, W m σ L →
  c σ L (fun L1 => tb { D with nx := Nxt W m, ct := Nxt W m, bk := D.nx } σ L1) (fun L1 => D.nx σ L1)
def tWhile' (c : TT') (tb : TS') : TS' := fun D σ L => WhileI c tb D σ L
section
variable {X : Cx} {pos : Pos} {e : Expr} {es : List Expr} {te ta tb : TE'}
theorem ps_while' {c : Expr} {body : List Stmt} {tc : TT'} {tb : TS'} (hp : PassesOwn (model X.prog X.w) X.A X.env X.xe) (hc : PT' X c tc) (hb : PSs' X body tb) : PS' X (.While c body [] pos) (tWhile' tc tb) :=
  lS (ps_while hp hc hb) fun D σ H ⟨σd, L, D', hs, hl, ht, k⟩ => by
    unfold tWhile' WhileI at ht
    obtain ⟨W, ⟨m0, σ1, L1, s1, c1, w1⟩, turn⟩ := ht
    refine ⟨fun m σ' H' => ∃ σd' L', SR X.K H' σd' σ' ∧ HL X.K H' L' ∧ W m σd' L' ∧ TK X.K H H', ⟨m0, σ1, L1, hs.sub s1, hl.cov c1, w1, .refl⟩, ?_⟩
    rintro m σ' H' ⟨σd', L', hs', hl', w', tk⟩
    refine ⟨σd', L', _, _, hs', hl', turn m σd' L' w', fun L2 H2 q t l => ?_, fun L2 H2 q t l => ?_⟩
    · refine iteT ?_
      refine ⟨fun σ3 H3 => ∃ m', m' < m ∧ ∃ σd' L', SR X.K H3 σd' σ3 ∧ HL X.K H3 L' ∧ W m' σd' L' ∧ TK X.K H H3, fun σ3 H3 h => h, ?_⟩
      have again : ∀ σd3 L3 σ3 H3, Nxt W m σd3 L3 → TK X.K H2 H3 → SR X.K H3 σd3 σ3 → HL X.K H3 L3 → ∃ m', m' < m ∧ ∃ σd' L', SR X.K H3 σd' σ3 ∧ HL X.K H3 L' ∧ W m' σd' L' ∧ TK X.K H H3 := fun σd3 L3 σ3 H3 h t3 s3 l3 => by
        obtain ⟨m', hm, σ4, L4, s4, c4, w4⟩ := h.elim
        exact ⟨m', hm, σ4, L4, s3.sub s4, l3.cov c4, w4, (tk.trans t).trans t3⟩
      exact ⟨σd', L2, _, hs'.mono t, l, q, again, (k.mono (tk.trans t)).rt, (k.mono (tk.trans t)).nx, again⟩
    · refine iteF ?_
      exact (k.mono tk).nx _ _ _ _ q t (hs'.mono t) l
/-! ### what is walked: the items, what stays -/
abbrev TI' := Sl → LL → (List D → (LL → Prop) → LL → Prop) → Prop
structure ItR (K : PySem.W.Frag) (H0 : Hp) (items : List D) (st : LL → Prop) (J : It) : Prop where
  go : ∀ i L H, TK K H0 H → HL K H L → st L → i < items.length → J.go i H
  yld : ∀ i L H x H' d, TK K H0 H → HL K H L → st L → items[i]? = some d → J.yld i H x H' → TK K H H' ∧ DR K H' d x ∧ HL K H' L
  stop : ∀ L H, TK K H0 H → HL K H L → st L → J.stop items.length H
def liftI (K : PySem.W.Frag) (w : TI') : TI := fun σ H R => ∃ σd L R', SR K H σd σ ∧ HL K H L ∧ w σd L R' ∧ ∀ items st L' J H', R' items st L' → ItR K H' items st J → TK K H H' → HL K H' L' → R J H'
abbrev PI' (X : Cx) (tg iter : Expr) (w : TI') : Prop := PI X tg iter (liftI X.K w)
theorem lI {tg iter : Expr} {w : TI} {w' : TI'} (h : PI X tg iter w) (f : ∀ σ H R, liftI X.K w' σ H R → w σ H R) : PI' X tg iter w' := ⟨fun pins s σ H R I q => h.run pins s σ H R I (f σ H R q)⟩
@[irreducible] def ForI (items : List D) (st : LL → Prop) (g : TG') (tb : TS') (D : EndsD) (σ : Sl) (L : LL) : Prop := ∃ W : Nat → Sl → LL → Prop, To σ L (W 0) ∧
  (∀ i σ L d, W i σ L → items[i]? = some d → st L ∧ g d σ L fun σ2 L2 => tb { D with nx := Nx1 W i, ct := Nx1 W i, bk := D.nx } σ2 L2) ∧ (∀ σ L, W items.length σ L → st L ∧ D.nx σ L)
def tFor' (w : TI') (g : TG') (tb : TS') : TS' := fun D σ L => w σ L fun items st L1 => ForI items st g tb D σ L1
theorem ps_for' {tg iter : Expr} {body : List Stmt} {w : TI'} {g : TG'} {tb : TS'} (hp : PassesOwn (model X.prog X.w) X.A X.env X.xe) (hc : X.calm = true) (hi : PI' X tg iter w) (hg : PG' X tg g) (hb : PSs' X body tb)
    (hs : ∀ x, foldedSetIterable iter X.env x = pure x := by intro _; rfl) : PS' X (.For tg iter body [] pos) (tFor' w g tb) :=
  lS (ps_for hp hc hi hg hb hs) fun D σ H ⟨σd, L, D', hs, hl, ht, k⟩ => ⟨σd, L, _, hs, hl, ht, fun items st L1 J H1 h1 J1 t1 l1 => by
    unfold ForI at h1
    obtain ⟨W, ⟨σ1, L2, s1, c1, w1⟩, turn, done⟩ := h1
    refine ⟨fun i m σ' H' => m = items.length - i ∧ i ≤ items.length ∧ ∃ σd' L', SR X.K H' σd' σ' ∧ HL X.K H' L' ∧ W i σd' L' ∧ TK X.K H1 H', ⟨items.length, by simp, Nat.zero_le _, σ1, L2, (hs.mono t1).sub s1, l1.cov c1, w1, .refl⟩, ?_⟩
    rintro i m σ' H' ⟨rfl, hi, σd', L', hs', hl', w', tk⟩
    by_cases hlt : i < items.length
    · obtain ⟨d, hd⟩ : ∃ d, items[i]? = some d := ⟨items[i], List.getElem?_eq_getElem hlt⟩
      obtain ⟨hst, hg'⟩ := turn i σd' L' d w' hd
      refine .inr ⟨J1.go i L' H' tk hl' hst hlt, fun σ3 H3 => ∃ σd' L', SR X.K H3 σd' σ3 ∧ HL X.K H3 L' ∧ W (i + 1) σd' L' ∧ TK X.K H1 H3, fun σ3 H3 h => ⟨items.length - (i + 1), by omega, rfl, hlt, h⟩, fun x H2 hy => ?_⟩
      obtain ⟨t2, r2, l2⟩ := J1.yld i L' H' x H2 d tk hl' hst hd hy
      refine ⟨d, σd', L', _, r2, hs'.mono t2, l2, hg', fun σd3 L3 σ3 H3 q3 t3 s3 l3 => ?_⟩
      have again : ∀ σd4 L4 σ4 H4, Nx1 W i σd4 L4 → TK X.K H3 H4 → SR X.K H4 σd4 σ4 → HL X.K H4 L4 → ∃ σd' L', SR X.K H4 σd' σ4 ∧ HL X.K H4 L' ∧ W (i + 1) σd' L' ∧ TK X.K H1 H4 := fun σd4 L4 σ4 H4 h t4 s4 l4 => by
        obtain ⟨σ5, L5, s5, c5, w5⟩ := h.elim
        exact ⟨σ5, L5, s4.sub s5, l4.cov c5, w5, ((tk.trans t2).trans t3).trans t4⟩
      have kk := k.mono (t1.trans ((tk.trans t2).trans t3))
      exact ⟨σd3, L3, _, s3, l3, q3, again, kk.rt, kk.nx, again⟩
    · have e : i = items.length := by omega
      subst e
      obtain ⟨hst, q⟩ := done σd' L' w'
      exact .inl ⟨J1.stop L' H' tk hl' hst, (k.mono (t1.trans tk)).nx _ _ _ _ q .refl hs' hl'⟩⟩
/-! over a list, a tuple, a range -/
theorem itr_list {K : PySem.W.Frag} {H0 : Hp} {a : Addr} {ds : List D} : ItR K H0 ds (fun L => HasL L a ds) (Itl K a) where
  go := fun i L H _ l st hi => by
    obtain ⟨vs, e, r⟩ := l.seq st
    have : i < vs.length := by rw [← r.length]; exact hi
    exact ⟨vs, vs[i], e, List.getElem?_eq_getElem this⟩
  yld := fun i L H x H' d _ l st hd hy => by
    obtain ⟨vs, e, r⟩ := l.seq st
    obtain ⟨e1, hy⟩ := hy
    subst e1
    obtain ⟨v, hv, rv⟩ := r.get hd
    have e2 : x = v := Option.some.inj ((hy vs e).symm.trans hv)
    subst e2
    exact ⟨.refl, rv, l⟩
  stop := fun L H _ l st => by
    obtain ⟨vs, e, r⟩ := l.seq st
    exact ⟨vs, e, by rw [r.length]; exact Nat.le_refl _⟩
theorem itr_tup {K : PySem.W.Frag} {H0 : Hp} {a : Addr} {ds : List D} {vs : List V} (s : SqT K H0 a vs) (r : DRs K H0 ds vs) : ItR K H0 ds (fun _ => True) (Itt K a) where
  go := fun i L H t l st hi => by
    have : i < vs.length := by rw [← r.length]; exact hi
    exact ⟨vs, vs[i], t.1 _ _ s, List.getElem?_eq_getElem this⟩
  yld := fun i L H x H' d t l st hd hy => by
    obtain ⟨e1, hy⟩ := hy
    subst e1
    obtain ⟨v, hv, rv⟩ := r.get hd
    have e2 : x = v := Option.some.inj ((hy vs (t.1 _ _ s)).symm.trans hv)
    subst e2
    exact ⟨.refl, rv.mono t, l⟩
  stop := fun L H t l st => ⟨vs, t.1 _ _ s, by rw [r.length]; exact Nat.le_refl _⟩
/-- for x in a list or a tuple -/
def iLst' (t : TE') : TI' := fun σ L R => t σ L fun d L1 => match d with
  | .ref a => ∃ ds, HasL L1 a ds ∧ R ds (fun L => HasL L a ds) L1
  | _ => False
def iTup' (t : TE') : TI' := fun σ L R => t σ L fun d L1 => match d with
  | .tup ds => R ds (fun _ => True) L1
  | _ => False
theorem pi_list' {tg : Expr} (h : PE' X e te) : PI' X tg e (iLst' te) := lI (pi_list h) fun σ H R ⟨σd, L, R', hs, hl, ht, k⟩ => ⟨σd, L, _, hs, hl, ht, fun d L1 v H1 h1 t1 r1 l1 => by
  cases r1 with
  | ref =>
    obtain ⟨ds, hh, q⟩ := (show ∃ ds, _ from h1)
    obtain ⟨vs, e, r⟩ := l1.seq hh
    exact ⟨_, rfl, ⟨vs, e⟩, k _ _ _ _ _ q itr_list t1 l1⟩
  | _ => exact (show False from h1).elim⟩
theorem pi_tup' {tg : Expr} (h : PE' X e te) : PI' X tg e (iTup' te) := lI (pi_tup h) fun σ H R ⟨σd, L, R', hs, hl, ht, k⟩ => ⟨σd, L, _, hs, hl, ht, fun d L1 v H1 h1 t1 r1 l1 => by
  cases r1 with
  | tup s r => exact ⟨_, rfl, ⟨_, s⟩, k _ _ _ _ _ h1 (itr_tup s r) t1 l1⟩
  | _ => exact (show False from h1).elim⟩
/-- lo, lo + 1, .. -/
def rgD (lo hi : Int) : List D := (List.range (hi - lo).toNat).map fun i => .int (lo + (i : Nat))
theorem rgD_length (lo hi : Int) : (rgD lo hi).length = (hi - lo).toNat := by unfold rgD; rw [List.length_map, List.length_range]
theorem rgD_get {lo hi : Int} {i : Nat} {d : D} (h : (rgD lo hi)[i]? = some d) : i < (hi - lo).toNat ∧ d = .int (lo + i) := by
  unfold rgD at h
  rw [List.getElem?_map] at h
  cases e : (List.range (hi - lo).toNat)[i]? with
  | none => rw [e] at h; cases h
  | some j =>
    rw [e] at h
    obtain ⟨h1, h2⟩ := List.getElem?_eq_some_iff.mp e
    rw [List.getElem_range] at h2
    rw [List.length_range] at h1
    subst h2
    exact ⟨h1, (Option.some.inj h).symm⟩
theorem itr_range {K : PySem.W.Frag} {H0 : Hp} {lo hi : Int} : ItR K H0 (rgD lo hi) (fun _ => True) (Itr lo (hi - lo).toNat) where
  go := fun i L H _ l st hi => by rw [rgD_length] at hi; exact hi
  yld := fun i L H x H' d _ l st hd hy => by
    obtain ⟨e1, e2⟩ := hy
    subst e1 e2
    rw [(rgD_get hd).2]
    exact ⟨.refl, .int, l⟩
  stop := fun L H _ l st => by rw [rgD_length]; exact Nat.le_refl _
def rgOk (lo hi : Int) : Prop := -(2 ^ 62) ≤ lo ∧ lo < 2 ^ 62 ∧ -(2 ^ 62) ≤ hi ∧ hi < 2 ^ 62
def one (ds : List D) (k : D → Prop) : Prop := match ds with
  | [d] => k d
  | _ => False
def two (ds : List D) (k : D → D → Prop) : Prop := match ds with
  | [d, e] => k d e
  | _ => False
def three (ds : List D) (k : D → D → D → Prop) : Prop := match ds with
  | [d, e, f] => k d e f
  | _ => False
theorem one_dr {K : PySem.W.Frag} {H : Hp} {ds : List D} {vs : List V} {k : D → Prop} (r : DRs K H ds vs) (h : one ds k) : ∃ d v, ds = [d] ∧ vs = [v] ∧ DR K H d v ∧ k d := by
  match ds, r, h with
  | [_], .cons a .nil, h => exact ⟨_, _, rfl, rfl, a, h⟩
  | [], _, h => exact (show False from h).elim
  | _ :: _ :: _, _, h => exact (show False from h).elim
theorem two_dr {K : PySem.W.Frag} {H : Hp} {ds : List D} {vs : List V} {k : D → D → Prop} (r : DRs K H ds vs) (h : two ds k) : ∃ d e v u, ds = [d, e] ∧ vs = [v, u] ∧ DR K H d v ∧ DR K H e u ∧ k d e := by
  match ds, r, h with
  | [_, _], .cons a (.cons b .nil), h => exact ⟨_, _, _, _, rfl, rfl, a, b, h⟩
  | [], _, h => exact (show False from h).elim
  | [_], _, h => exact (show False from h).elim
  | _ :: _ :: _ :: _, _, h => exact (show False from h).elim
theorem three_dr {K : PySem.W.Frag} {H : Hp} {ds : List D} {vs : List V} {k : D → D → D → Prop} (r : DRs K H ds vs) (h : three ds k) : ∃ d e f v u w, ds = [d, e, f] ∧ vs = [v, u, w] ∧ DR K H d v ∧ DR K H e u ∧ DR K H f w ∧ k d e f := by
  match ds, r, h with
  | [_, _, _], .cons a (.cons b (.cons c .nil)), h => exact ⟨_, _, _, _, _, _, rfl, rfl, a, b, c, h⟩
  | [], _, h => exact (show False from h).elim
  | [_], _, h => exact (show False from h).elim
  | [_, _], _, h => exact (show False from h).elim
  | _ :: _ :: _ :: _ :: _, _, h => exact (show False from h).elim
theorem int_dr {K : PySem.W.Frag} {H : Hp} {d : D} {v : V} {k : Int → Prop} (r : DR K H d v) (h : intD d k) : ∃ i, d = .int i ∧ v = .int i ∧ k i := by
  cases r with
  | int => exact ⟨_, rfl, rfl, h⟩
  | _ => exact (show False from h).elim
def iRng1' (t : TA') : TI' := fun σ L R => t σ L fun ds L1 => one ds fun d => intD d fun j => rgOk 0 j ∧ R (rgD 0 j) (fun _ => True) L1
def iRng2' (t : TA') : TI' := fun σ L R => t σ L fun ds L1 => two ds fun d e => intD d fun i => intD e fun j => rgOk i j ∧ R (rgD i j) (fun _ => True) L1
variable {a b c : Expr} {tA : TA'}
theorem pi_range1' {tg : Expr} {p : Pos} (hg : Gl X "range") (hm : X.mg "range" = none) (ha : PA' X [a] tA) (hs : starEach [a] X.env = [(false, eval a X.env)] := by rfl) : PI' X tg (.Call (.Name "range" p) [a] [] pos) (iRng1' tA) :=
  lI (pi_range1 hg hm ha hs) fun σ H R ⟨σd, L, R', hs, hl, ht, k⟩ => ⟨σd, L, _, hs, hl, ht, fun ds L1 vs H1 h1 t1 r1 l1 => by
    obtain ⟨d, v, rfl, rfl, rd, q⟩ := one_dr r1 h1
    obtain ⟨j, rfl, rfl, ⟨_, _, z1, z2⟩, q⟩ := int_dr rd q
    refine ⟨j, rfl, z1, z2, ?_⟩
    have z := k _ _ _ (Itr 0 (j - 0).toNat) _ q itr_range t1 l1
    rw [Int.sub_zero] at z
    exact z⟩
theorem pi_range2' {tg : Expr} {p : Pos} (hg : Gl X "range") (hm : X.mg "range" = none) (ha : PA' X [a, b] tA) (hs : starEach [a, b] X.env = [(false, eval a X.env), (false, eval b X.env)] := by rfl) (hs2 : starEach [b] X.env = [(false, eval b X.env)] := by rfl) :
    PI' X tg (.Call (.Name "range" p) [a, b] [] pos) (iRng2' tA) :=
  lI (pi_range2 hg hm ha hs hs2) fun σ H R ⟨σd, L, R', hs, hl, ht, k⟩ => ⟨σd, L, _, hs, hl, ht, fun ds L1 vs H1 h1 t1 r1 l1 => by
    obtain ⟨d, e, v, u, rfl, rfl, rd, re, q⟩ := two_dr r1 h1
    obtain ⟨i, rfl, rfl, q⟩ := int_dr rd q
    obtain ⟨j, rfl, rfl, z, q⟩ := int_dr re q
    exact ⟨i, j, rfl, z, k _ _ _ _ _ q itr_range t1 l1⟩⟩
/-- i, i - 1, .. above j -/
def rgDn (lo hi : Int) : List D := (List.range (lo - hi).toNat).map fun i => .int (lo - (i : Nat))
theorem rgDn_length (lo hi : Int) : (rgDn lo hi).length = (lo - hi).toNat := by unfold rgDn; rw [List.length_map, List.length_range]
theorem rgDn_get {lo hi : Int} {i : Nat} {d : D} (h : (rgDn lo hi)[i]? = some d) : i < (lo - hi).toNat ∧ d = .int (lo - i) := by
  unfold rgDn at h
  rw [List.getElem?_map] at h
  cases e : (List.range (lo - hi).toNat)[i]? with
  | none => rw [e] at h; cases h
  | some j =>
    rw [e] at h
    obtain ⟨h1, h2⟩ := List.getElem?_eq_some_iff.mp e
    rw [List.getElem_range] at h2
    rw [List.length_range] at h1
    subst h2
    exact ⟨h1, (Option.some.inj h).symm⟩
theorem itr_rangeDn {K : PySem.W.Frag} {H0 : Hp} {lo hi : Int} : ItR K H0 (rgDn lo hi) (fun _ => True) (Itc lo (-1) (lo - hi).toNat) where
  go := fun i L H _ l st hi => by rw [rgDn_length] at hi; exact hi
  yld := fun i L H x H' d _ l st hd hy => by
    obtain ⟨e1, e2⟩ := hy
    subst e1 e2
    rw [(rgDn_get hd).2]
    rw [show lo + (i : Int) * -1 = lo - i by omega]
    exact ⟨.refl, .int, l⟩
  stop := fun L H _ l st => by rw [rgDn_length]; exact Nat.le_refl _
/-- range(i, j, -1) -/
def iRngDn' (t : TA') : TI' := fun σ L R => t σ L fun ds L1 => three ds fun d e f => intD d fun i => intD e fun j => intD f fun c => c = -1 ∧ rgOk i j ∧ R (rgDn i j) (fun _ => True) L1
theorem pi_rangeDn' {tg : Expr} {p : Pos} (hg : Gl X "range") (hm : X.mg "range" = none) (ha : PA' X [a, b, c] tA)
    (hs : starEach [a, b, c] X.env = (false, eval a X.env) :: starEach [b, c] X.env := by rfl) (hpl : (backTo pos (starEach [b, c] X.env)).any (·.1) = false := by rfl) : PI' X tg (.Call (.Name "range" p) [a, b, c] [] pos) (iRngDn' tA) :=
  lI (pi_range3 hg hm ha hs hpl) fun σ H R ⟨σd, L, R', hs, hl, ht, k⟩ => ⟨σd, L, _, hs, hl, ht, fun ds L1 vs H1 h1 t1 r1 l1 => by
    obtain ⟨d, e, f, v, u, w, rfl, rfl, rd, re, rf, q⟩ := three_dr r1 h1
    obtain ⟨i, rfl, rfl, q⟩ := int_dr rd q
    obtain ⟨j, rfl, rfl, q⟩ := int_dr re q
    obtain ⟨c, rfl, rfl, rfl, ⟨z1, z2, z3, z4⟩, q⟩ := int_dr rf q
    exact ⟨i, j, -1, _, rfl, RgC.neg z1 z2 z3 z4, k _ _ _ _ _ q itr_rangeDn t1 l1⟩⟩
/-- enumerate(list) -/
def enumD (ds : List D) : List D := (List.range ds.length).map fun i => .tup [.int (i : Nat), ds.getD i .non]
theorem enumD_length (ds : List D) : (enumD ds).length = ds.length := by unfold enumD; rw [List.length_map, List.length_range]
theorem enumD_get {ds : List D} {i : Nat} {d : D} (h : (enumD ds)[i]? = some d) : ∃ e, ds[i]? = some e ∧ d = .tup [.int (i : Nat), e] := by
  have hl : i < ds.length := by
    have := (List.getElem?_eq_some_iff.mp h).1
    rw [enumD_length] at this
    exact this
  unfold enumD at h
  rw [List.getElem?_map, List.getElem?_range hl] at h
  refine ⟨ds[i], List.getElem?_eq_getElem hl, ?_⟩
  rw [← Option.some.inj h]
  simp [List.getD, List.getElem?_eq_getElem hl]
theorem itr_enum {K : PySem.W.Frag} {H0 : Hp} {a : Addr} {ds : List D} : ItR K H0 (enumD ds) (fun L => HasL L a ds) (Ite K a) where
  go := fun i L H _ l st hi => by
    rw [enumD_length] at hi
    obtain ⟨vs, e, r⟩ := l.seq st
    have : i < vs.length := by rw [← r.length]; exact hi
    exact ⟨vs, vs[i], e, List.getElem?_eq_getElem this⟩
  yld := fun i L H x H' d _ l st hd hy => by
    obtain ⟨vs, e, r⟩ := l.seq st
    obtain ⟨T, y, rfl, hT, rfl, hy⟩ := hy
    obtain ⟨de, h1, rfl⟩ := enumD_get hd
    obtain ⟨v, hv, rv⟩ := r.get h1
    have e2 : y = v := Option.some.inj ((hy vs e).symm.trans hv)
    subst e2
    exact ⟨TK.new hT, dr_newt hT (.cons .int (.cons rv .nil)), l.mono_new hT⟩
  stop := fun L H _ l st => by
    obtain ⟨vs, e, r⟩ := l.seq st
    exact ⟨vs, e, by rw [enumD_length, r.length]; exact Nat.le_refl _⟩
def iEnum' (t : TA') : TI' := fun σ L R => t σ L fun ds L1 => one ds fun d => match d with
  | .ref a => ∃ xs, HasL L1 a xs ∧ R (enumD xs) (fun L => HasL L a xs) L1
  | _ => False
theorem pi_enum' {p tpos : Pos} {elts : List Expr} {kk : Nat} (hg : Gl X "enumerate") (hm : X.mg "enumerate" = none) (ha : PA' X [e] tA) (hs : starEach [e] X.env = [(false, eval e X.env)] := by rfl) :
    PI' X (.Tuple elts kk tpos) (.Call (.Name "enumerate" p) [e] [] pos) (iEnum' tA) :=
  lI (pi_enum hg hm ha hs) fun σ H R ⟨σd, L, R', hs, hl, ht, k⟩ => ⟨σd, L, _, hs, hl, ht, fun ds L1 vs H1 h1 t1 r1 l1 => by
    obtain ⟨d, v, rfl, rfl, rd, q⟩ := one_dr r1 h1
    cases rd with
    | ref =>
      obtain ⟨xs, hh, q⟩ := (show ∃ xs, _ from q)
      obtain ⟨us, e, r⟩ := l1.seq hh
      exact ⟨_, us, rfl, e, k _ _ _ _ _ q itr_enum t1 l1⟩
    | _ => exact (show False from q).elim⟩
/-- zip(list, list) -/
def zipD (xs ys : List D) : List D := (xs.zip ys).map fun p => .tup [p.1, p.2]
theorem itr_zip {K : PySem.W.Frag} {H0 : Hp} {a b : Addr} {xs ys : List D} : ItR K H0 (zipD xs ys) (fun L => HasL L a xs ∧ HasL L b ys) (Itz K a b) where
  go := fun i L H _ l st hi => by
    unfold zipD at hi
    rw [List.length_map, List.length_zip] at hi
    obtain ⟨vs, e, r⟩ := l.seq st.1
    obtain ⟨us, e2, r2⟩ := l.seq st.2
    have h1 : i < vs.length := by rw [← r.length]; omega
    have h2 : i < us.length := by rw [← r2.length]; omega
    exact ⟨vs, us, vs[i], us[i], e, e2, List.getElem?_eq_getElem h1, List.getElem?_eq_getElem h2⟩
  yld := fun i L H x H' d _ l st hd hy => by
    obtain ⟨vs, e, r⟩ := l.seq st.1
    obtain ⟨us, e2, r2⟩ := l.seq st.2
    obtain ⟨T, y, z, rfl, hT, rfl, hy, hz⟩ := hy
    unfold zipD at hd
    rw [List.getElem?_map] at hd
    cases eq : (xs.zip ys)[i]? with
    | none => rw [eq] at hd; cases hd
    | some pq =>
      rw [eq] at hd
      obtain ⟨p1, p2⟩ := pq
      obtain ⟨g1, g2⟩ := List.getElem?_zip_eq_some.mp eq
      obtain ⟨v, hv, rv⟩ := r.get g1
      obtain ⟨u, hu, ru⟩ := r2.get g2
      have e3 : y = v := Option.some.inj ((hy vs e).symm.trans hv)
      have e4 : z = u := Option.some.inj ((hz us e2).symm.trans hu)
      subst e3 e4
      rw [← Option.some.inj hd]
      exact ⟨TK.new hT, dr_newt hT (.cons rv (.cons ru .nil)), l.mono_new hT⟩
  stop := fun L H _ l st => by
    obtain ⟨vs, e, r⟩ := l.seq st.1
    obtain ⟨us, e2, r2⟩ := l.seq st.2
    refine ⟨vs, us, e, e2, ?_⟩
    unfold zipD
    rw [List.length_map, List.length_zip, r.length, r2.length]
    omega
def iZip' (t : TA') : TI' := fun σ L R => t σ L fun ds L1 => two ds fun d e => match d, e with
  | .ref a, .ref b => ∃ xs, HasL L1 a xs ∧ ∃ ys, HasL L1 b ys ∧ R (zipD xs ys) (fun L => HasL L a xs ∧ HasL L b ys) L1
  | _, _ => False
theorem pi_zip' {e2 : Expr} {p tpos : Pos} {elts : List Expr} {kk : Nat} (hg : Gl X "zip") (hm : X.mg "zip" = none) (ha : PA' X [e, e2] tA)
    (hs : starEach [e, e2] X.env = (false, eval e X.env) :: starEach [e2] X.env := by rfl) (hpl : (backTo pos (starEach [e2] X.env)).any (·.1) = false := by rfl) :
    PI' X (.Tuple elts kk tpos) (.Call (.Name "zip" p) [e, e2] [] pos) (iZip' tA) :=
  lI (pi_zip hg hm ha hs hpl) fun σ H R ⟨σd, L, R', hs, hl, ht, k⟩ => ⟨σd, L, _, hs, hl, ht, fun ds L1 vs H1 h1 t1 r1 l1 => by
    obtain ⟨d, d2, v, v2, rfl, rfl, rd, rd2, q⟩ := two_dr r1 h1
    cases rd with
    | ref =>
      cases rd2 with
      | ref =>
        obtain ⟨xs, hh, ys, hh2, q⟩ := (show ∃ xs, _ from q)
        obtain ⟨us, e, r⟩ := l1.seq hh
        obtain ⟨ws, e3, r3⟩ := l1.seq hh2
        exact ⟨_, _, us, ws, rfl, e, e3, k _ _ _ _ _ q itr_zip t1 l1⟩
      | _ => exact (show False from q).elim
    | _ => exact (show False from q).elim⟩
end
end DL

namespace DL
open PySem PySem.Spec PyProof.Rows L2
/-! ### contracts -/
abbrev Ct := List D → LL → DK → Prop
def liftC (K : PySem.W.Frag) (c : Ct) : Sp := fun vs H Q _ => ∃ ds L Φ, DRs K H ds vs ∧ HL K H L ∧ c ds L Φ ∧ Kont K H Φ Q
/-- a def called by n values written, dd filling up -/
structure Fnd (P : Program) (w : World) (K : PySem.W.Frag) (mg : Str → Option Value) (base : Heap) (x : Str) (n : Nat) (dd : List D) (c : Ct) (k : Nat) : Prop where
  ex : ∃ f fd ps ds dvs, mg x = some (.ref f) ∧ PySem.W.keepIn K (.ref f) = true ∧ Binds K fd ps ds ∧ Vals dvs ds ∧ (∀ H, DRs K H dd dvs) ∧ FnOk P w K mg base CX0 k f fd ps (liftC K c)
/-- a method of the class at C -/
structure Mtd (P : Program) (w : World) (K : PySem.W.Frag) (mg : Str → Option Value) (base : Heap) (C : Addr) (m : Str) (dd : List D) (c : Ct) (k : Nat) : Prop where
  cl : Cls K C
  nf : ∀ i, i < fnames.length → fname i ≠ m
  ex : ∃ f fd ps ds dvs, Meth K C m f ∧ Binds K fd ps ds ∧ Vals dvs ds ∧ (∀ H, DRs K H dd dvs) ∧ FnOk P w K mg base CX0 k f fd ps (liftC K c)
/-- a class made by its __init__ -/
structure Mkd (P : Program) (w : World) (K : PySem.W.Frag) (mg : Str → Option Value) (base : Heap) (x : Str) (C : Addr) (dd : List D) (c : Ct) (k : Nat) : Prop where
  ex : ∃ f fd ps ds dvs, Mk K C f ∧ mg x = some (.ref C) ∧ Binds K fd ps ds ∧ Vals dvs ds ∧ (∀ H, DRs K H dd dvs) ∧ FnOk P w K mg base CX0 k f fd ps (liftC K c)
/-- called with keywords: g puts the positional and the keywords' values (and defaults) in the parameters' order -/
structure Fnk (P : Program) (w : World) (K : PySem.W.Frag) (mg : Str → Option Value) (base : Heap) (x : Str) (n : Nat) (ks : List Str) (g : List D → List D → List D) (c : Ct) (k : Nat) : Prop where
  ex : ∃ f fd ps gU gV, mg x = some (.ref f) ∧ PySem.W.keepIn K (.ref f) = true ∧ KBn K fd ps n ks gU gV ∧ (∀ H ds es vs us, DRs K H ds vs → DRs K H es us → ds.length = n → es.length = ks.length → DRs K H (g ds es) (gV vs us)) ∧ FnOk P w K mg base CX0 k f fd ps (liftC K c)
section
variable {X : Cx} {pos : Pos} {e o : Expr} {es : List Expr} {te ta tb : TE'} {t : TA'} {x : Str} {c : Ct} {k n : Nat} {dd : List D}
def tCall' (c : Ct) (dd : List D) (t : TA') : TE' := fun σ L Φ => t σ L fun ds L1 => c (ds ++ dd) L1 Φ
theorem DRs.app {K : PySem.W.Frag} {H : Hp} {ds es : List D} {vs us : List V} (a : DRs K H ds vs) (b : DRs K H es us) : DRs K H (ds ++ es) (vs ++ us) := a.append b
theorem lift_call {dvs : List V} {σ : L2.St} {H : Hp} {Q : VK} (hdd : ∀ H, DRs X.K H dd dvs) (h : liftE X.K (tCall' c dd t) σ H Q) : tCall (liftC X.K c) dvs E0 (liftA X.K t) σ H Q := by
  obtain ⟨σd, L, Φ, hs, hl, ht, k⟩ := h
  exact ⟨σd, L, _, hs, hl, ht, fun ds L1 vs H1 h1 t1 r1 l1 => ⟨_, L1, Φ, r1.append (hdd H1), l1, h1, k.mono t1⟩⟩
theorem pe_call' {p : Pos} (F : Fnd X.prog X.w X.K X.mg X.base x n dd c k) (hr : Room k X.A) (hg : Gl X x) (ha : PA' X (e :: es) t) (hd : (x == ("__debug__" : Str)) = false := by decide)
    (he : starEach (e :: es) X.env = (false, eval e X.env) :: starEach es X.env := by rfl) (hpl : (backTo pos (starEach es X.env)).any (·.1) = false := by rfl) : PE' X (.Call (.Name x p) (e :: es) [] pos) (tCall' c dd t) := by
  obtain ⟨f, fd, ps, ds, dvs, hm, hk, hb, hv, hdd, F⟩ := F.ex
  exact lE (pe_call F hr hg hm hk hb hv pass0 ha (hdb := hd) (he := he) (hpl := hpl)) fun σ H Q h => lift_call hdd h
def tCall0' (c : Ct) (dd : List D) : TE' := fun σ L Φ => c dd L Φ
theorem pe_call0' {p : Pos} (F : Fnd X.prog X.w X.K X.mg X.base x n dd c k) (hr : Room k X.A) (hg : Gl X x) (hd : (x == ("__debug__" : Str)) = false := by decide) : PE' X (.Call (.Name x p) [] [] pos) (tCall0' c dd) := by
  obtain ⟨f, fd, ps, ds, dvs, hm, hk, hb, hv, hdd, F⟩ := F.ex
  exact lE (pe_call0 F hr hg hm hk hb hv pass0 (hdb := hd)) fun σ H Q ⟨σd, L, Φ, hs, hl, ht, k⟩ => ⟨dd, L, Φ, hdd H, hl, ht, k⟩
def tMeth' (C : Addr) (c : Ct) (dd : List D) (to : TE') (t : TA') : TE' := fun σ L Φ => to σ L fun d L1 => match d with
  | .ref a => ∃ fs, Has L1 a (.ins C fs) ∧ t σ L1 fun ds L2 => c (.ref a :: (ds ++ dd)) L2 Φ
  | _ => False
theorem pe_meth' {C : Addr} {m : Str} {apos : Pos} {pl : Sem Bool} (F : Mtd X.prog X.w X.K X.mg X.base C m dd c k) (hr : Room k X.A) (he : PE' X o te) (ha : PA' X (e :: es) t)
    (hst : starEach (e :: es) X.env = (false, eval e X.env) :: starEach es X.env := by rfl) (hpl : (backTo pos (starEach es X.env)).any (·.1) = false := by rfl)
    (ht : eval (.Call (.Attribute o m apos) (e :: es) [] pos) X.env = (do
      let ov ← eval o X.env
      standAt apos.atName
      let (f, first) ← holding [ov] (getMethod ov m pl)
      callWith pos f first (backTo pos (starEach (e :: es) X.env)) (backToKw pos (keywordEach [] X.env))) := by rfl) : PE' X (.Call (.Attribute o m apos) (e :: es) [] pos) (tMeth' C c dd te t) := by
  obtain ⟨cl, nf, f, fd, ps, ds, dvs, hm, hb, hv, hdd, F⟩ := F
  exact lE (pe_meth he cl hm F hr hb hv pass0 ha hst hpl ht) fun σ H Q ⟨σd, L, Φ, hs, hl, ht, k⟩ => ⟨σd, L, _, hs, hl, ht, fun d L1 v H1 h1 t1 r1 l1 => by
    cases r1 with
    | ref =>
      obtain ⟨fs, hh, q⟩ := (show ∃ fs, _ from h1)
      obtain ⟨dx, gs, e1, r⟩ := l1.has hh
      exact ⟨_, dx, gs, rfl, e1, r.none_of nf, σd, L1, _, hs.mono t1, l1, q, fun ds L2 vs H2 h2 t2 r2 l2 => ⟨_, L2, Φ, .cons .ref (r2.append (hdd H2)), l2, h2, k.mono (t1.trans t2)⟩⟩
    | _ => exact (show False from h1).elim⟩
def tMeth0' (C : Addr) (c : Ct) (dd : List D) (to : TE') : TE' := fun σ L Φ => to σ L fun d L1 => match d with
  | .ref a => ∃ fs, Has L1 a (.ins C fs) ∧ c (.ref a :: dd) L1 Φ
  | _ => False
theorem pe_meth0' {C : Addr} {m : Str} {apos : Pos} {pl : Sem Bool} (F : Mtd X.prog X.w X.K X.mg X.base C m dd c k) (hr : Room k X.A) (he : PE' X o te)
    (ht : eval (.Call (.Attribute o m apos) [] [] pos) X.env = (do
      let ov ← eval o X.env
      standAt apos.atName
      let (f, first) ← holding [ov] (getMethod ov m pl)
      callWith pos f first (backTo pos (starEach [] X.env)) (backToKw pos (keywordEach [] X.env))) := by rfl) : PE' X (.Call (.Attribute o m apos) [] [] pos) (tMeth0' C c dd te) := by
  obtain ⟨cl, nf, f, fd, ps, ds, dvs, hm, hb, hv, hdd, F⟩ := F
  exact lE (pe_meth0 he cl hm F hr hb hv pass0 ht) fun σ H Q ⟨σd, L, Φ, hs, hl, ht, k⟩ => ⟨σd, L, _, hs, hl, ht, fun d L1 v H1 h1 t1 r1 l1 => by
    cases r1 with
    | ref =>
      obtain ⟨fs, hh, q⟩ := (show ∃ fs, _ from h1)
      obtain ⟨dx, gs, e1, r⟩ := l1.has hh
      exact ⟨_, dx, gs, rfl, e1, r.none_of nf, _, L1, Φ, .cons .ref (hdd H1), l1, q, k.mono t1⟩
    | _ => exact (show False from h1).elim⟩
def tMake' (C : Addr) (c : Ct) (dd : List D) (t : TA') : TE' := fun σ L Φ => t σ L fun ds L1 => ∀ p, c (.ref p :: (ds ++ dd)) ((p, .ins C []) :: L1) fun _ L2 => Φ (.ref p) L2
/-- what __init__ hands back is None: the contract's continuation is asked of it -/
def NonOnly (c : Ct) : Prop := ∀ ds L Φ, c ds L Φ → c ds L fun d L' => d = .non ∧ Φ d L'
theorem new_ins {K : PySem.W.Frag} {H : Hp} {L : LL} {p dx C : Addr} (l : HL K H L) (hp : H p = none) (hd : H dx = none) (hne : dx ≠ p) :
    TK K H (upd (upd H dx (.own p)) p (.ins C dx [])) ∧ HL K (upd (upd H dx (.own p)) p (.ins C dx [])) ((p, .ins C []) :: L) := by
  have h1 : (upd H dx (.own p)) p = none := by rw [upd_ne (Ne.symm hne)]; exact hp
  exact ⟨(TK.new hd).trans (TK.new h1), (l.mono_new hd).new h1 ⟨dx, [], upd_same, .nil⟩⟩
theorem pe_make' {C : Addr} {p : Pos} (F : Mkd X.prog X.w X.K X.mg X.base x C dd c k) (nn : NonOnly c) (hr : Room (k + 1) X.A) (hg : Gl X x) (ha : PA' X (e :: es) t) (hd : (x == ("__debug__" : Str)) = false := by decide)
    (he : starEach (e :: es) X.env = (false, eval e X.env) :: starEach es X.env := by rfl) (hpl : (backTo pos (starEach es X.env)).any (·.1) = false := by rfl) : PE' X (.Call (.Name x p) (e :: es) [] pos) (tMake' C c dd t) := by
  obtain ⟨f, fd, ps, ds, dvs, M, hm, hb, hv, hdd, F⟩ := F.ex
  exact lE (pe_make M F hr hg hm hb hv pass0 ha (hdb := hd) (he := he) (hpl := hpl)) fun σ H Q ⟨σd, L, Φ, hs, hl, ht, k⟩ => ⟨σd, L, _, hs, hl, ht, fun ds L1 vs H1 h1 t1 r1 l1 q dx hq hdx hne => by
    obtain ⟨t2, l2⟩ := new_ins (C := C) l1 hq hdx hne
    exact ⟨_, _, _, .cons .ref ((r1.append (hdd H1)).mono t2), l2, nn _ _ _ (h1 q), fun d L3 v H3 h3 t3 r3 l3 => by
      obtain ⟨rfl, h3⟩ := h3
      cases r3
      exact ⟨rfl, k _ _ _ _ h3 ((t1.trans t2).trans t3) .ref l3⟩⟩⟩
def tMake0' (C : Addr) (c : Ct) (dd : List D) : TE' := fun σ L Φ => ∀ p, c (.ref p :: dd) ((p, .ins C []) :: L) fun _ L2 => Φ (.ref p) L2
theorem pe_make0' {C : Addr} {p : Pos} (F : Mkd X.prog X.w X.K X.mg X.base x C dd c k) (nn : NonOnly c) (hr : Room (k + 1) X.A) (hg : Gl X x) (hd : (x == ("__debug__" : Str)) = false := by decide) : PE' X (.Call (.Name x p) [] [] pos) (tMake0' C c dd) := by
  obtain ⟨f, fd, ps, ds, dvs, M, hm, hb, hv, hdd, F⟩ := F.ex
  exact lE (pe_make0 M F hr hg hm hb hv pass0 (hdb := hd)) fun σ H Q ⟨σd, L, Φ, hs, hl, ht, k⟩ q dx hq hdx hne => by
    obtain ⟨t2, l2⟩ := new_ins (C := C) hl hq hdx hne
    exact ⟨_, _, _, .cons .ref ((hdd H).mono t2), l2, nn _ _ _ (ht q), fun d L3 v H3 h3 t3 r3 l3 => by
      obtain ⟨rfl, h3⟩ := h3
      cases r3
      exact ⟨rfl, k _ _ _ _ h3 (t2.trans t3) .ref l3⟩⟩
def PK' (X : Cx) (kws : List Keyword) (t : TA') : Prop := PK X kws (liftA X.K t)
theorem pk_nil' : PK' X [] tNil' := ⟨fun pos pins s σ H Q I ⟨σd, L, Φ, hs, hl, ht, k⟩ => pk_nil.run pos pins s σ H Q I (k _ _ _ _ ht .refl .nil hl)⟩
theorem pk_cons' {kws : List Keyword} {nm : Option Str} {kpos : Pos} (h : PE' X e te) (h2 : PK' X kws t) : PK' X (⟨nm, e, kpos⟩ :: kws) (tCons' te t) :=
  ⟨fun pos pins s σ H Q I ⟨σd, L, Φ, hs, hl, ht, k⟩ => (pk_cons h h2).run pos pins s σ H Q I ⟨σd, L, _, hs, hl, ht, fun d L1 v H1 h1 t1 r1 l1 => ⟨σd, L1, _, hs.mono t1, l1, h1, fun ds L2 vs H2 h2 t2 r2 l2 => k _ _ _ _ h2 (t1.trans t2) (.cons (r1.mono t2) r2) l2⟩⟩⟩
def tCallK' (n m : Nat) (g : List D → List D → List D) (c : Ct) (t tk : TA') : TE' := fun σ L Φ => t σ L fun ds L1 => tk σ L1 fun es L2 => ds.length = n ∧ es.length = m ∧ c (g ds es) L2 Φ
end
/-! ### the proof of a def -/
def startD (n : Nat) (ds : List D) : Sl := ds.map some ++ List.replicate (n - ds.length) none
theorem SR.nones {K : PySem.W.Frag} {H : Hp} : ∀ n : Nat, SR K H (List.replicate n none) (List.replicate n none)
  | 0 => .nil
  | n + 1 => .no (SR.nones n)
theorem SR.start {K : PySem.W.Frag} {H : Hp} {m : List (Option D)} {m' : L2.St} (t : SR K H m m') : ∀ {ds : List D} {vs : List V}, DRs K H ds vs → SR K H (ds.map some ++ m) (vs.map some ++ m')
  | _, _, .nil => t
  | _, _, .cons a r => .yes a (SR.start t r)
theorem sr_start {K : PySem.W.Frag} {H : Hp} {N : List Str} {ds : List D} {vs : List V} (r : DRs K H ds vs) : SR K H (startD N.length ds) (L2.start N vs) := by
  unfold startD L2.start
  rw [r.length]
  exact SR.start (SR.nones _) r
/-- the ends of a def's body -/
inductive Ret (L : LL) (k : LL → Prop) : Prop
  | mk (L2 : LL) : Cov L L2 → k L2 → Ret L k
def endD (Φ : DK) : EndsD := { nx := fun _ L => Ret L (Φ .non), rt := fun d L => Ret L (Φ d) }
section
variable {P : Program} {w : World} {K : PySem.W.Frag} {mg : Str → Option Value} {base : Heap} {x qual : Str} {params : Arguments} {body : List Stmt} {scope : Scope} {dvs : List V} {kws : List (Str × V)} {f : Addr} {fd : FuncData} {ps N : List Str} {k : Nat} {c : Ct} {t : TS'}
/-- what a def's body runs in -/
abbrev BX (P : Program) (w : World) (K : PySem.W.Frag) (mg : Str → Option Value) (base : Heap) (N : List Str) (qual : Str) (scope : Scope) (f : Addr) (cdv : Value) (A : Around) (outer : List Env) (s : Shared) (H : Hp) (E : XK) : Cx := (cxOf CX0 P w K mg base N qual scope f cdv A outer s H E).nox
theorem fnOkD (F : FunD K x qual params body scope dvs kws f fd) (S : FnScope N ps scope) (len : ∀ ds L Φ, c ds L Φ → ds.length = ps.length)
    (der : ∀ (cdv : Value) (A : Around) (outer : List Env) (s : Shared) (H : Hp) (E : XK), Room k (A.deeper (envOfC qual scope s.heap.objs.size f cdv)) → PSs' (BX P w K mg base N qual scope f cdv A outer s H E) body t)
    (rd : ∀ ds L Φ, c ds L Φ → t (endD Φ) (startD N.length ds) L) : FnOk P w K mg base CX0 (k + 1) f fd ps (liftC K c) := by
  refine F.ok S (fun vs H Q E ⟨ds, L, Φ, r, _, h, _⟩ => by rw [← r.length]; exact len ds L Φ h) fun cdv A outer s H vs Q E hr ⟨ds, L, Φ, r, l, h, q⟩ => ⟨_, PSs.nox (der cdv A outer s H E hr), _, L, endD Φ, sr_start r, l, rd ds L Φ h, ?_, ?_, ?_, ?_⟩
  · rintro σd L2 σ H2 ⟨L3, c3, h3⟩ t2 s2 l2
    exact q _ _ _ _ h3 t2 .non (l2.cov c3)
  · rintro d L2 v H2 ⟨L3, c3, h3⟩ t2 r2 l2
    exact q _ _ _ _ h3 t2 r2 (l2.cov c3)
  · intro _ _ _ _ h
    exact (show False from h).elim
  · intro _ _ _ _ h
    exact (show False from h).elim
end
end DL

namespace DL
open PySem PySem.Spec PyProof.Rows L2
/-! ### built-ins by values -/
abbrev FA := List D → LL → DK → Prop
def CD (K : PySem.W.Frag) (f : FA) (r : List V → Hp → VK → Prop) : Prop := ∀ (ds : List D) (vs : List V) (L : LL) (H : Hp) (Φ : DK) (Q : VK), DRs K H ds vs → HL K H L → f ds L Φ → Kont K H Φ Q → r vs H Q
def tCB' (f : FA) (t : TA') : TE' := fun σ L Φ => t σ L fun ds L1 => f ds L1 Φ
section
variable {X : Cx} {K : PySem.W.Frag} {pos : Pos} {e o : Expr} {es : List Expr} {te to ta tb : TE'} {t : TA'} {x : Str} {f : FA} {r : List V → Hp → VK → Prop} {id T : String}
theorem lift_cb (cd : CD X.K f r) {σ : L2.St} {H : Hp} {Q : VK} (h : liftE X.K (tCB' f t) σ H Q) : tCB r (liftA X.K t) σ H Q := by
  obtain ⟨σd, L, Φ, hs, hl, ht, k⟩ := h
  exact ⟨σd, L, _, hs, hl, ht, fun ds L1 vs H1 h1 t1 r1 l1 => cd _ _ _ _ _ _ r1 l1 h1 (k.mono t1)⟩
theorem pe_callB' {p : Pos} (cd : CD X.K f r) (hc : CallR X (.builtin id) r) (hg : Gl X x) (hm : X.mg x = none) (hv : bootBuiltins x = some (.builtin id)) (ha : PA' X (e :: es) t) (hn : x ≠ "__name__" := by decide) (hdb : (x == ("__debug__" : Str)) = false := by decide)
    (he : starEach (e :: es) X.env = (false, eval e X.env) :: starEach es X.env := by rfl) (hpl : (backTo pos (starEach es X.env)).any (·.1) = false := by rfl) : PE' X (.Call (.Name x p) (e :: es) [] pos) (tCB' f t) :=
  lE (pe_callB hc hg hm hv ha hn hdb he hpl) fun _ _ _ h => lift_cb cd h
theorem pe_callTy' {p : Pos} (cd : CD X.K f r) (hc : CallR X (.type T) r) (hg : Gl X x) (hm : X.mg x = none) (hv : bootBuiltins x = some (.type T)) (ha : PA' X (e :: es) t) (hn : x ≠ "__name__" := by decide) (hdb : (x == ("__debug__" : Str)) = false := by decide)
    (he : starEach (e :: es) X.env = (false, eval e X.env) :: starEach es X.env := by rfl) (hpl : (backTo pos (starEach es X.env)).any (·.1) = false := by rfl) : PE' X (.Call (.Name x p) (e :: es) [] pos) (tCB' f t) :=
  lE (pe_callTy hc hg hm hv ha hn hdb he hpl) fun _ _ _ h => lift_cb cd h
/-- len -/
def lenD (d : D) (L : LL) (k : Nat → Prop) : Prop := match d with
  | .ref a => ∃ ds, HasL L a ds ∧ k ds.length
  | .tup ds => k ds.length
  | .str x => x.length ≤ 1000000 ∧ k x.length
  | _ => False
def fLen : FA := fun ds L Φ => one ds fun d => lenD d L fun n => Φ (.int n) L
theorem cd_len : CD K fLen (fun xs H Q => ∃ x n, xs = [x] ∧ LenV K x H n ∧ Q (.int n) H) := fun ds vs L H Φ Q r l h k => by
  obtain ⟨d, v, rfl, rfl, rd, q⟩ := one_dr r h
  cases rd with
  | ref =>
    obtain ⟨xs, hh, q⟩ := (show ∃ xs, _ from q)
    obtain ⟨us, e, ru⟩ := l.seq hh
    exact ⟨_, us.length, rfl, .inl ⟨us, e, rfl⟩, by rw [← ru.length]; exact k _ _ _ _ q .refl .int l⟩
  | tup s tt => exact ⟨_, _, rfl, .inr ⟨_, s, rfl⟩, by rw [← tt.length]; exact k _ _ _ _ q .refl .int l⟩
  | str =>
    obtain ⟨z, q⟩ := (show _ ∧ _ from q)
    exact ⟨_, _, rfl, ⟨szl z, rfl⟩, k _ _ _ _ q .refl .int l⟩
  | _ => exact (show False from q).elim
/-- list(x), x a list or tuple -/
def fList : FA := fun ds L Φ => one ds fun d => starD d L fun xs => ∀ p, Φ (.ref p) ((p, .lst xs) :: L)
theorem cd_list : CD K fList (fun xs H Q => ∃ p ys, xs = [.ref p] ∧ (SqL K H p ys ∨ SqT K H p ys) ∧ ∀ l, H l = none → Q (.ref l) (upd H l (.lst ys))) := fun ds vs L H Φ Q r l h k => by
  obtain ⟨d, v, rfl, rfl, rd, q⟩ := one_dr r h
  cases rd with
  | ref =>
    obtain ⟨xs, hh, q⟩ := (show ∃ xs, _ from q)
    obtain ⟨us, e, ru⟩ := l.seq hh
    exact ⟨_, us, rfl, .inl e, fun p hp => k _ _ _ _ (q p) (TK.new hp) .ref (l.newl hp ru)⟩
  | tup s tt => exact ⟨_, _, rfl, .inr s, fun p hp => k _ _ _ _ ((show ∀ p, _ from q) p) (TK.new hp) .ref (l.newl hp tt)⟩
  | _ => exact (show False from q).elim
/-- tuple(x) -/
def fTuple : FA := fun ds L Φ => one ds fun d => starD d L fun xs => Φ (.tup xs) L
theorem cd_tuple : CD K fTuple (fun xs H Q => ∃ p ys, xs = [.ref p] ∧ ((SqL K H p ys ∧ ∀ l, H l = none → Q (.ref l) (upd H l (.tup ys))) ∨ (SqT K H p ys ∧ Q (.ref p) H))) := fun ds vs L H Φ Q r l h k => by
  obtain ⟨d, v, rfl, rfl, rd, q⟩ := one_dr r h
  cases rd with
  | ref =>
    obtain ⟨xs, hh, q⟩ := (show ∃ xs, _ from q)
    obtain ⟨us, e, ru⟩ := l.seq hh
    exact ⟨_, us, rfl, .inl ⟨e, fun p hp => k _ _ _ _ q (TK.new hp) (dr_newt hp ru) (l.mono_new hp)⟩⟩
  | tup s tt => exact ⟨_, _, rfl, .inr ⟨s, k _ _ _ _ q .refl (.tup s tt) l⟩⟩
  | _ => exact (show False from q).elim
/-- list(range(a, b)) -/
def tLstRg1' (t : TE') : TE' := fun σ L Φ => t σ L fun d L1 => intD d fun n => (n ≤ 1000000 ∧ -1000000 ≤ n) ∧ ∀ p, Φ (.ref p) ((p, .lst (rgD 0 n)) :: L1)
def tLstRg2' (t u : TE') : TE' := fun σ L Φ => t σ L fun d L1 => intD d fun i => u σ L1 fun d2 L2 => intD d2 fun j => (i ≤ 1000000 ∧ 0 ≤ i ∧ j ≤ 1000000 ∧ -1000000 ≤ j) ∧ ∀ p, Φ (.ref p) ((p, .lst (rgD i j)) :: L2)
theorem drs_rg {H : Hp} (i j : Int) : DRs K H (rgD i j) (rgV i j) := by
  unfold rgD rgV
  generalize List.range (j - i).toNat = l
  induction l with
  | nil => exact .nil
  | cons a r ih => exact .cons .int ih
variable {a b : Expr}
theorem pe_listRg1' {p p2 pos2 : Pos} (hc : X.calm = true) (hg : Gl X "list") (hm : X.mg "list" = none) (hg2 : Gl X "range") (hm2 : X.mg "range" = none) (ha : PE' X a ta)
    (na : starEach [a] X.env = (false, eval a X.env) :: starEach [] X.env := by rfl)
    (na2 : starEach [.Call (.Name "range" p2) [a] [] pos2] X.env = (false, eval (.Call (.Name "range" p2) [a] [] pos2) X.env) :: starEach [] X.env := by rfl) : PE' X (.Call (.Name "list" p) [.Call (.Name "range" p2) [a] [] pos2] [] pos) (tLstRg1' ta) :=
  lE (pe_listRg hc hg hm (prg_1 hg2 hm2 ha na) na2) fun σ H Q ⟨σd, L, Φ, hs, hl, ht, k⟩ => ⟨σd, L, _, hs, hl, ht, fun d L1 v H1 h1 t1 r1 l1 => by
    obtain ⟨n, rfl, rfl, ⟨z1, z2⟩, q⟩ := int_dr r1 h1
    refine ⟨n, rfl, ⟨by omega, by omega, by omega, by omega, by omega⟩, fun p hp => k _ _ _ _ (q p) (t1.trans (TK.new hp)) .ref (l1.newl hp (drs_rg 0 n))⟩⟩
theorem pe_listRg2' {p p2 pos2 : Pos} (hc : X.calm = true) (hg : Gl X "list") (hm : X.mg "list" = none) (hg2 : Gl X "range") (hm2 : X.mg "range" = none) (ha : PE' X a ta) (hb : PE' X b tb)
    (na : starEach [a, b] X.env = (false, eval a X.env) :: starEach [b] X.env := by rfl) (nb : starEach [b] X.env = (false, eval b X.env) :: starEach [] X.env := by rfl)
    (hp : (backTo pos2 (starEach [b] X.env)).any (·.1) = false := by rfl)
    (na2 : starEach [.Call (.Name "range" p2) [a, b] [] pos2] X.env = (false, eval (.Call (.Name "range" p2) [a, b] [] pos2) X.env) :: starEach [] X.env := by rfl) : PE' X (.Call (.Name "list" p) [.Call (.Name "range" p2) [a, b] [] pos2] [] pos) (tLstRg2' ta tb) :=
  lE (pe_listRg hc hg hm (prg_2 hg2 hm2 ha hb na nb hp) na2) fun σ H Q ⟨σd, L, Φ, hs, hl, ht, k⟩ => ⟨σd, L, _, hs, hl, ht, fun d L1 v H1 h1 t1 r1 l1 => by
    obtain ⟨i, rfl, rfl, q⟩ := int_dr r1 h1
    refine ⟨σd, L1, _, hs.mono t1, l1, q, fun d2 L2 v2 H2 h2 t2 r2 l2 => ?_⟩
    obtain ⟨j, rfl, rfl, ⟨z1, z2, z3, z4⟩, q⟩ := int_dr r2 h2
    refine ⟨i, j, rfl, rfl, ⟨by omega, by omega, by omega, by omega, by omega⟩, fun p hp => k _ _ _ _ (q p) ((t1.trans t2).trans (TK.new hp)) .ref (l2.newl hp (drs_rg i j))⟩⟩
/-- sum, max, min of a list of ints; of two ints -/
def intsL (d : D) (L : LL) (k : List Int → Prop) : Prop := match d with
  | .ref a => ∃ ds, HasL L a ds ∧ ∃ ns : List Int, ds = ns.map .int ∧ k ns
  | _ => False
theorem intsL_dr {H : Hp} {d : D} {v : V} {L : LL} {k : List Int → Prop} (r : DR K H d v) (l : HL K H L) (h : intsL d L k) : ∃ a ns, v = .ref a ∧ SqL K H a (ns.map V.int) ∧ k ns := by
  cases r with
  | ref =>
    obtain ⟨ds, hh, ns, rfl, q⟩ := (show ∃ ds, _ from h)
    obtain ⟨us, e, ru⟩ := l.seq hh
    have := ru.ints'
    subst this
    exact ⟨_, ns, rfl, e, q⟩
  | _ => exact (show False from h).elim
def fSum : FA := fun ds L Φ => one ds fun d => intsL d L fun ns => Φ (.int ns.sum) L
theorem cd_sum : CD K fSum (rSum K) := fun ds vs L H Φ Q r l h k => by
  obtain ⟨d, v, rfl, rfl, rd, q⟩ := one_dr r h
  obtain ⟨a, ns, rfl, e, q⟩ := intsL_dr rd l q
  exact ⟨a, ns, rfl, e, k _ _ _ _ q .refl .int l⟩
def fMaxL : FA := fun ds L Φ => one ds fun d => intsL d L fun ns => 0 < ns.length ∧ ∀ m, m ∈ ns → (∀ y, y ∈ ns → y ≤ m) → Φ (.int m) L
theorem cd_maxL : CD K fMaxL (rMax K) := fun ds vs L H Φ Q r l h k => by
  obtain ⟨d, v, rfl, rfl, rd, q⟩ := one_dr r h
  obtain ⟨a, ns, rfl, e, z, q⟩ := intsL_dr rd l q
  exact ⟨a, ns, rfl, e, z, fun m h1 h2 => k _ _ _ _ (q m h1 h2) .refl .int l⟩
def fMinL : FA := fun ds L Φ => one ds fun d => intsL d L fun ns => 0 < ns.length ∧ ∀ m, m ∈ ns → (∀ y, y ∈ ns → m ≤ y) → Φ (.int m) L
theorem cd_minL : CD K fMinL (rMin K) := fun ds vs L H Φ Q r l h k => by
  obtain ⟨d, v, rfl, rfl, rd, q⟩ := one_dr r h
  obtain ⟨a, ns, rfl, e, z, q⟩ := intsL_dr rd l q
  exact ⟨a, ns, rfl, e, z, fun m h1 h2 => k _ _ _ _ (q m h1 h2) .refl .int l⟩
def fMax2 : FA := fun ds L Φ => two ds fun d e => intD d fun i => intD e fun j => Φ (.int (if j > i then j else i)) L
theorem cd_max2 : CD K fMax2 (fun xs H Q => ∃ i j, xs = [.int i, .int j] ∧ Q (.int (if j > i then j else i)) H) := fun ds vs L H Φ Q r l h k => by
  obtain ⟨d, e, v, u, rfl, rfl, rd, re, q⟩ := two_dr r h
  obtain ⟨i, rfl, rfl, q⟩ := int_dr rd q
  obtain ⟨j, rfl, rfl, q⟩ := int_dr re q
  exact ⟨i, j, rfl, k _ _ _ _ q .refl .int l⟩
def fMin2 : FA := fun ds L Φ => two ds fun d e => intD d fun i => intD e fun j => Φ (.int (if j < i then j else i)) L
theorem cd_min2 : CD K fMin2 (fun xs H Q => ∃ i j, xs = [.int i, .int j] ∧ Q (.int (if j < i then j else i)) H) := fun ds vs L H Φ Q r l h k => by
  obtain ⟨d, e, v, u, rfl, rfl, rd, re, q⟩ := two_dr r h
  obtain ⟨i, rfl, rfl, q⟩ := int_dr rd q
  obtain ⟨j, rfl, rfl, q⟩ := int_dr re q
  exact ⟨i, j, rfl, k _ _ _ _ q .refl .int l⟩
def fAbs : FA := fun ds L Φ => one ds fun d => intD d fun i => Φ (.int (if i < 0 then -i else i)) L
theorem cd_abs : CD K fAbs (fun xs H Q => ∃ i, xs = [.int i] ∧ Q (.int (if i < 0 then -i else i)) H) := fun ds vs L H Φ Q r l h k => by
  obtain ⟨d, v, rfl, rfl, rd, q⟩ := one_dr r h
  obtain ⟨i, rfl, rfl, q⟩ := int_dr rd q
  exact ⟨i, rfl, k _ _ _ _ q .refl .int l⟩
def fInt : FA := fun ds L Φ => one ds fun d => match d with
  | .int i => Φ (.int i) L
  | .bl b => Φ (.int (if b then 1 else 0)) L
  | _ => False
theorem cd_int : CD K fInt (fun xs H Q => (∃ i, xs = [.int i] ∧ Q (.int i) H) ∨ ∃ k, xs = [.bl k] ∧ Q (.int (if k then 1 else 0)) H) := fun ds vs L H Φ Q r l h k => by
  obtain ⟨d, v, rfl, rfl, rd, q⟩ := one_dr r h
  cases rd with
  | int => exact .inl ⟨_, rfl, k _ _ _ _ q .refl .int l⟩
  | bl => exact .inr ⟨_, rfl, k _ _ _ _ q .refl .int l⟩
  | _ => exact (show False from q).elim
/-! isinstance -/
inductive Tn where
  | nn | bl | it | st | tp | ls | dc
def Tn.name : Tn → String
  | .nn => "NoneType" | .bl => "bool" | .it => "int" | .st => "str" | .tp => "tuple" | .ls => "list" | .dc => "dict"
def Tn.is : Tn → Tn → Bool
  | .bl, .bl => true | .bl, .it => true | .it, .it => true | .st, .st => true | .tp, .tp => true | .ls, .ls => true | .dc, .dc => true | .nn, .nn => true | _, _ => false
theorem kit_tn {K : PySem.W.Frag} : ∀ a b : Tn, PySem.W.kitOne K (.type a.name) (.type b.name) = some (a.is b) := fun a b => by
  cases a <;> cases b <;> exact kit_ty (by decide +kernel)
def tyD (d : D) (L : LL) (k : Tn → Prop) : Prop := match d with
  | .non => k .nn
  | .bl _ => k .bl
  | .int _ => k .it
  | .str _ => k .st
  | .tup _ => k .tp
  | .ref a => ∃ o, Has L a o ∧ (match o with
    | .lst _ => k .ls
    | .ro _ => k .ls
    | .dk _ => k .dc
    | .dt _ => k .dc
    | _ => False)
  | .ty _ => False
theorem tyD_x {H : Hp} {d : D} {v : V} {L : LL} {k : Tn → Prop} (r : DR K H d v) (l : HL K H L) (h : tyD d L k) : ∃ t : Tn, TyX K H v (.type t.name) ∧ k t := by
  cases r with
  | non => exact ⟨.nn, .base .non, h⟩
  | bl => exact ⟨.bl, .base (.bl _), h⟩
  | int => exact ⟨.it, .base (.int _), h⟩
  | str => exact ⟨.st, .base (.str _), h⟩
  | tup s _ =>
    refine ⟨.tp, ?_, h⟩
    rcases s with (s | ⟨ob, s⟩) | ⟨ob, its, n, hk, hc, _⟩
    · exact .base (.tup s)
    · exact .fTuple s
    · exact .kTuple hk hc
  | ref =>
    obtain ⟨ob, hh, q⟩ := (show ∃ ob, _ from h)
    cases ob with
    | lst ds =>
      obtain ⟨vs, e, _⟩ := l.has hh
      exact ⟨.ls, .base (.lst e), q⟩
    | ro ds =>
      obtain ⟨vs, e, _⟩ := l.has hh
      rcases e with ⟨ob, e⟩ | ⟨ob, its, n, hk, hc, _⟩
      · exact ⟨.ls, .base (.frz e), q⟩
      · exact ⟨.ls, .kList hk hc, q⟩
    | dk kvs =>
      obtain ⟨gs, e, _⟩ := l.has hh
      exact ⟨.dc, .base (.dK e), q⟩
    | dt kvs =>
      obtain ⟨gs, e, _⟩ := l.has hh
      exact ⟨.dc, .base (.dT e), q⟩
    | ins C fs => exact (show False from q).elim
    | xd fs => exact (show False from q).elim
    | gh P => exact (show False from q).elim
  | ty => exact (show False from h).elim
def tIsi' (c : Tn) (t : TE') : TE' := fun σ L Φ => t σ L fun d L1 => tyD d L1 fun tn => Φ (.bl (tn.is c)) L1
theorem pe_isi' {T : Str} {p pT : Pos} {c : Tn} (hg : Gl X "isinstance") (hm : X.mg "isinstance" = none) (hgT : Gl X T) (hmT : X.mg T = none) (hvT : bootBuiltins T = some (.type c.name)) (ha : PE' X e te) (hnT : T ≠ "__name__" := by decide) (hdT : (T == ("__debug__" : Str)) = false := by decide)
    (he : starEach [e, .Name T pT] X.env = (false, eval e X.env) :: starEach [.Name T pT] X.env := by rfl) (hpl : (backTo pos (starEach [.Name T pT] X.env)).any (·.1) = false := by rfl) : PE' X (.Call (.Name "isinstance" p) [e, .Name T pT] [] pos) (tIsi' c te) :=
  lE (pe_callB call_isi hg hm boot_isinstance (pa_cons (show PE X e (liftE X.K te) from ha) (pa_cons (pe_bltn (v := .ty c.name) hgT hmT hvT rfl hnT hdT) pa_nil) he) (he := he) (hpl := hpl)) fun σ H Q ⟨σd, L, Φ, hs, hl, ht, k⟩ => ⟨σd, L, _, hs, hl, ht, fun d L1 v H1 h1 t1 r1 l1 => by
    obtain ⟨tn, hty, q⟩ := tyD_x r1 l1 h1
    exact ⟨v, _, _, _, tn.is c, rfl, .ty _, hty, kit_tn tn c, k _ _ _ _ q t1 .bl l1⟩⟩
def tIsi2' (c c2 : Tn) (t : TE') : TE' := fun σ L Φ => t σ L fun d L1 => tyD d L1 fun tn => Φ (.bl (tn.is c || tn.is c2)) L1
theorem pe_isi2' {T T2 : Str} {p pT pT2 p3 : Pos} {x1} {c c2 : Tn} (hg : Gl X "isinstance") (hm : X.mg "isinstance" = none) (hgT : Gl X T) (hmT : X.mg T = none) (hvT : bootBuiltins T = some (.type c.name)) (hgT2 : Gl X T2) (hmT2 : X.mg T2 = none) (hvT2 : bootBuiltins T2 = some (.type c2.name)) (ha : PE' X e te)
    (hnT : T ≠ "__name__" := by decide) (hdT : (T == ("__debug__" : Str)) = false := by decide) (hnT2 : T2 ≠ "__name__" := by decide) (hdT2 : (T2 == ("__debug__" : Str)) = false := by decide)
    (he : starEach [e, .Tuple [.Name T pT, .Name T2 pT2] x1 p3] X.env = (false, eval e X.env) :: starEach [.Tuple [.Name T pT, .Name T2 pT2] x1 p3] X.env := by rfl) (hpl : (backTo pos (starEach [.Tuple [.Name T pT, .Name T2 pT2] x1 p3] X.env)).any (·.1) = false := by rfl) :
    PE' X (.Call (.Name "isinstance" p) [e, .Tuple [.Name T pT, .Name T2 pT2] x1 p3] [] pos) (tIsi2' c c2 te) :=
  lE (pe_callB call_isiT hg hm boot_isinstance (pa_cons (show PE X e (liftE X.K te) from ha) (pa_cons (pe_tup (pa_cons (pe_bltn (v := .ty c.name) hgT hmT hvT rfl hnT hdT) (pa_cons (pe_bltn (v := .ty c2.name) hgT2 hmT2 hvT2 rfl hnT2 hdT2) pa_nil))) pa_nil) he) (he := he) (hpl := hpl)) fun σ H Q ⟨σd, L, Φ, hs, hl, ht, k⟩ => ⟨σd, L, _, hs, hl, ht, fun d L1 v H1 h1 t1 r1 l1 => by
    refine ⟨(by show 2 ≤ sizeLine; decide), fun p hp => ?_⟩
    obtain ⟨tn, hty, q⟩ := tyD_x (r1.mono (TK.new hp)) (l1.mono_new hp) h1
    refine ⟨v, p, _, _, [.type c.name, .type c2.name], tn.is c || tn.is c2, rfl, upd_same, .cons (.ty _) (.cons (.ty _) .nil), hty, ?_, k _ _ _ _ q (t1.trans (TK.new hp)) .bl (l1.mono_new hp)⟩
    refine kitAny_cons (kit_tn tn c) (fun hb => ?_) fun hb => by rw [hb]; rfl
    rw [hb]
    exact kitAny_cons (kit_tn tn c2) (fun hb2 => by rw [hb2]; rfl) fun hb2 => by rw [hb2]; rfl⟩
/-! ### methods of lists -/
abbrev FM := D → List D → LL → DK → Prop
def MD (K : PySem.W.Frag) (f : FM) (r : V → List V → Hp → VK → Prop) : Prop := ∀ (d : D) (ds : List D) (x : V) (vs : List V) (L : LL) (H : Hp) (Φ : DK) (Q : VK), DR K H d x → DRs K H ds vs → HL K H L → f d ds L Φ → Kont K H Φ Q → r x vs H Q
/-- the receiver is a list, now -/
def isL (d : D) (L : LL) (k : Prop) : Prop := match d with
  | .ref a => ∃ ds, HasL L a ds ∧ k
  | _ => False
theorem isL_dr {H : Hp} {d : D} {v : V} {L : LL} {k : Prop} (r : DR K H d v) (l : HL K H L) (h : isL d L k) : tyV K "list" v H ∧ k := by
  cases r with
  | ref =>
    obtain ⟨ds, hh, q⟩ := (show ∃ ds, _ from h)
    obtain ⟨us, e, ru⟩ := l.seq hh
    exact ⟨.inl ⟨rfl, us, e⟩, q⟩
  | _ => exact (show False from h).elim
def tLM' (f : FM) (to : TE') (t : TA') : TE' := fun σ L Φ => to σ L fun d L1 => isL d L1 (t σ L1 fun ds L2 => f d ds L2 Φ)
def tLM0' (f : FM) (to : TE') : TE' := fun σ L Φ => to σ L fun d L1 => isL d L1 (f d [] L1 Φ)
variable {fm : FM} {rm : V → List V → Hp → VK → Prop} {name : Str} {apos : Pos}
theorem pe_lm' (md : MD X.K fm rm) (slot : Slot "list" name id) (hty : typeOf (.builtin id) = pure (.type "method_descriptor")) (hm : MtR X id rm) (ho : PE' X o to) (ha : PA' X (e :: es) t)
    (hbase : attributeBase o name X.env (eval o X.env) = eval o X.env := by rfl)
    (hfew : ((backTo pos (starEach (e :: es) X.env)).all (fun x => !x.1) && (backToKw pos (keywordEach [] X.env)).all (fun x => x.1.isSome)
      && decide ((e :: es).length + ([] : List Keyword).length + (if ([] : List Keyword).isEmpty then 0 else 1) < 30)) = true := by rfl)
    (hline : (apos.endLine == pos.line) = true := by rfl) (hs : starEach (e :: es) X.env = (false, eval e X.env) :: starEach es X.env := by rfl) (hplain : (backTo pos (starEach es X.env)).any (·.1) = false := by rfl) :
    PE' X (.Call (.Attribute o name apos) (e :: es) [] pos) (tLM' fm to t) :=
  lE (pe_bm PySem.F.plainAttrs_list slot hty hm ho ha hbase hfew hline hs hplain) fun σ H Q ⟨σd, L, Φ, hs, hl, ht, k⟩ => ⟨σd, L, _, hs, hl, ht, fun d L1 v H1 h1 t1 r1 l1 => by
    obtain ⟨ty, q⟩ := isL_dr r1 l1 h1
    exact ⟨ty, σd, L1, _, hs.mono t1, l1, q, fun ds L2 vs H2 h2 t2 r2 l2 => md _ _ _ _ _ _ _ _ (r1.mono t2) r2 l2 h2 (k.mono (t1.trans t2))⟩⟩
theorem pe_lm0' (md : MD X.K fm rm) (slot : Slot "list" name id) (hty : typeOf (.builtin id) = pure (.type "method_descriptor")) (hm : MtR X id rm) (ho : PE' X o to)
    (hbase : attributeBase o name X.env (eval o X.env) = eval o X.env := by rfl) (hline : (apos.endLine == pos.line) = true := by rfl) : PE' X (.Call (.Attribute o name apos) [] [] pos) (tLM0' fm to) :=
  lE (pe_bm0 PySem.F.plainAttrs_list slot hty hm ho hbase hline) fun σ H Q ⟨σd, L, Φ, hs, hl, ht, k⟩ => ⟨σd, L, _, hs, hl, ht, fun d L1 v H1 h1 t1 r1 l1 => by
    obtain ⟨ty, q⟩ := isL_dr r1 l1 h1
    exact ⟨ty, md _ _ _ _ _ _ _ _ r1 .nil l1 q (k.mono t1)⟩⟩
def fAppend : FM := fun d ds L Φ => match d with
  | .ref l => one ds fun y => ∃ xs L', Chg L l (.lst xs) (.lst (xs ++ [y])) L' ∧ xs.length ≤ 1000000 ∧ Φ .non L'
  | _ => False
theorem md_append : MD K fAppend rAppend := fun d ds x vs L H Φ Q r rs l h k => by
  cases r with
  | ref =>
    obtain ⟨y, v, rfl, rfl, ry, xs, L', c, z, q⟩ := one_dr rs h
    obtain ⟨us, e, ru⟩ := l.lst c.has
    obtain ⟨t2, l2⟩ := l.chgl c e (ru.append (.cons ry .nil))
    exact ⟨_, us, v, rfl, rfl, e, by rw [← ru.length]; exact szl' z, k _ _ _ _ q t2 .non l2⟩
  | _ => exact (show False from h).elim
def fExtend : FM := fun d ds L Φ => match d with
  | .ref l => one ds fun y => match y with
    | .ref b => ∃ zs, Has L b (.lst zs) ∧ ∃ xs L', Chg L l (.lst xs) (.lst (xs ++ zs)) L' ∧ xs.length + zs.length ≤ 1000000 ∧ Φ .non L'
    | _ => False
  | _ => False
theorem md_extend : MD K fExtend rExtend := fun d ds x vs L H Φ Q r rs l h k => by
  cases r with
  | ref =>
    obtain ⟨y, v, rfl, rfl, ry, q⟩ := one_dr rs h
    cases ry with
    | ref =>
      obtain ⟨zs, hb, xs, L', c, z, q⟩ := (show ∃ zs, _ from q)
      obtain ⟨us, e, ru⟩ := l.lst c.has
      obtain ⟨ws, e2, rw⟩ := l.lst hb
      obtain ⟨t2, l2⟩ := l.chgl c e (ru.append rw)
      exact ⟨_, _, us, ws, rfl, rfl, e, e2, by rw [← ru.length, ← rw.length]; exact szl z, k _ _ _ _ q t2 .non l2⟩
    | _ => exact (show False from q).elim
  | _ => exact (show False from h).elim
def fPop : FM := fun d ds L Φ => match d with
  | .ref l => ds = [] ∧ ∃ xs L', Chg L l (.lst xs) (.lst xs.dropLast) L' ∧ ∃ y, xs[xs.length - 1]? = some y ∧ Φ y L'
  | _ => False
theorem DRs.dropLast {H : Hp} : ∀ {ds : List D} {vs : List V}, DRs K H ds vs → DRs K H ds.dropLast vs.dropLast
  | _, _, .nil => .nil
  | _, _, .cons _ .nil => .nil
  | _, _, .cons a (.cons b r) => .cons a (DRs.dropLast (.cons b r))
theorem md_pop : MD K fPop rPop := fun d ds x vs L H Φ Q r rs l h k => by
  cases r with
  | ref =>
    obtain ⟨rfl, xs, L', c, y, hy, q⟩ := (show ds = [] ∧ _ from h)
    cases rs
    obtain ⟨us, e, ru⟩ := l.lst c.has
    obtain ⟨v, hv, rv⟩ := ru.get hy
    obtain ⟨t2, l2⟩ := l.chgl c e ru.dropLast
    exact ⟨_, us, v, rfl, rfl, e, by rw [← ru.length]; exact hv, k _ _ _ _ q t2 (rv.mono t2) l2⟩
  | _ => exact (show False from h).elim
def fReverse : FM := fun d ds L Φ => match d with
  | .ref l => ∃ xs L', Chg L l (.lst xs) (.lst xs.reverse) L' ∧ ds = [] ∧ Φ .non L'
  | _ => False
theorem md_reverse : MD K fReverse rReverse := fun d ds x vs L H Φ Q r rs l h k => by
  cases r with
  | ref =>
    obtain ⟨xs, L', c, rfl, q⟩ := (show ∃ xs, _ from h)
    cases rs
    obtain ⟨us, e, ru⟩ := l.lst c.has
    obtain ⟨t2, l2⟩ := l.chgl c e ru.reverse
    exact ⟨_, us, rfl, rfl, e, k _ _ _ _ q t2 .non l2⟩
  | _ => exact (show False from h).elim
end
end DL

namespace DL
open PySem PySem.Spec PyProof.Rows L2
/-! ### list comprehensions -/
def wipeD (σ : Sl) : List Nat → Sl
  | [] => σ
  | v :: vs => (wipeD σ vs).set v none
theorem SR.clear {K : PySem.W.Frag} {H : Hp} : ∀ {σd : Sl} {σ : L2.St} (i : Nat) (x : Option V), SR K H σd σ → SR K H (σd.set i none) (σ.set i x)
  | _, _, _, _, .nil => .nil
  | _, _, 0, _, .no q => .no q
  | _, _, 0, _, .yes _ q => .no q
  | _, _, i + 1, x, .no q => .no (SR.clear i x q)
  | _, _, i + 1, x, .yes a q => .yes a (SR.clear i x q)
theorem SR.wipe {K : PySem.W.Frag} {H : Hp} {σd : Sl} {σ : L2.St} (r : SR K H σd σ) : ∀ vs : List Nat, SR K H (wipeD σd vs) (L2.wipe σ vs)
  | [] => r
  | v :: vs => SR.clear v none (SR.wipe r vs)
theorem wipe_set {σ : L2.St} {i : Nat} {x : Option V} : ∀ {vs : List Nat}, i ∈ vs → L2.wipe (σ.set i x) vs = L2.wipe σ vs
  | v :: vs, h => by
    show (L2.wipe (σ.set i x) vs).set v none = (L2.wipe σ vs).set v none
    by_cases hv : i ∈ vs
    · rw [wipe_set hv]
    · have e : v = i := by
        rcases List.mem_cons.mp h with e | h
        · exact e.symm
        · exact absurd h hv
      subst e
      have : ∀ ws : List Nat, v ∉ ws → L2.wipe (σ.set v x) ws = (L2.wipe σ ws).set v x := by
        intro ws
        induction ws with
        | nil => intro _; rfl
        | cons u ws ih =>
          intro hn
          have h1 : v ≠ u := fun e => hn (by rw [e]; exact List.mem_cons_self)
          show (L2.wipe (σ.set v x) ws).set u none = ((L2.wipe σ ws).set u none).set v x
          rw [ih fun z => hn (List.mem_cons_of_mem _ z), List.set_comm _ _ h1]
      rw [this vs hv, List.set_set]
theorem wipe_wipe (σ : L2.St) (vs : List Nat) : L2.wipe (L2.wipe σ vs) vs = L2.wipe σ vs := by
  have aux : ∀ (us : List Nat) (τ : L2.St), (∀ u ∈ us, ∀ y : Nat, (List.set τ u none)[y]? = (show List (Option V) from τ)[y]?) → L2.wipe τ us = τ := by
    intro us
    induction us with
    | nil => intro τ _; rfl
    | cons u us ih =>
      intro τ hh
      show (L2.wipe τ us).set u none = τ
      rw [ih τ fun v hv => hh v (List.mem_cons_of_mem _ hv)]
      exact List.ext_getElem? (hh u List.mem_cons_self)
  refine aux vs _ fun u hu y => ?_
  have key : ∀ (ws : List Nat), u ∈ ws → ∀ y : Nat, ((L2.wipe σ ws).set u none)[y]? = (L2.wipe σ ws)[y]? := by
    intro ws
    induction ws with
    | nil => intro h; cases h
    | cons v ws ih =>
      intro h y
      show ((((L2.wipe σ ws).set v none).set u none))[y]? = ((L2.wipe σ ws).set v none)[y]?
      by_cases e : u = v
      · subst e
        rw [List.set_set]
      · have hw : u ∈ ws := by
          rcases List.mem_cons.mp h with e' | h
          · exact absurd e' e
          · exact h
        have z : (L2.wipe σ ws).set u none = L2.wipe σ ws := List.ext_getElem? (ih hw)
        rw [List.set_comm _ _ (Ne.symm e), z]
  exact key vs hu y
/-- a target of a comprehension: it stores own names alone -/
def OwnT (K : PySem.W.Frag) (vs : List Nat) (g : TG) (g' : TG') : Prop := ∀ (v : V) (σ : L2.St) (H : Hp) (Q : L2.St → Hp → Prop) (d : D) (σd : Sl) (L : LL) (Q' : Sl → LL → Prop), DR K H d v → SR K H σd σ → HL K H L → g' d σd L Q' →
  (∀ σd' L' σ', Q' σd' L' → L2.wipe σ' vs = L2.wipe σ vs → SR K H σd' σ' → HL K H L' → Q σ' H) → g v σ H Q
def OwnTs (K : PySem.W.Frag) (vs : List Nat) (g : TGs) (g' : TGs') : Prop := ∀ (us : List V) (σ : L2.St) (H : Hp) (Q : L2.St → Hp → Prop) (ds : List D) (σd : Sl) (L : LL) (Q' : Sl → LL → Prop), DRs K H ds us → SR K H σd σ → HL K H L → g' ds σd L Q' →
  (∀ σd' L' σ', Q' σd' L' → L2.wipe σ' vs = L2.wipe σ vs → SR K H σd' σ' → HL K H L' → Q σ' H) → g us σ H Q
section
variable {K : PySem.W.Frag} {vs : List Nat}
theorem own_name {i : Nat} (hi : i ∈ vs) : OwnT K vs (gName i) (gName' i) := fun v σ H Q d σd L Q' r hs l h k => k _ _ _ h (wipe_set hi) (hs.set r i) l
theorem own_nil : OwnTs K vs gNil gNil' := fun us σ H Q ds σd L Q' r hs l h k => by
  cases r with
  | nil => exact ⟨rfl, k _ _ _ h rfl hs l⟩
  | cons _ _ => exact (show False from h).elim
theorem own_cons {g : TG} {g' : TG'} {u : TGs} {u' : TGs'} (h1 : OwnT K vs g g') (h2 : OwnTs K vs u u') : OwnTs K vs (gCons g u) (gCons' g' u') := fun us σ H Q ds σd L Q' r hs l h k => by
  cases r with
  | nil => exact (show False from h).elim
  | cons r1 r2 => exact ⟨_, _, rfl, h1 _ _ _ _ _ _ _ _ r1 hs l h fun σd1 L1 σ1 q1 w1 s1 l1 => h2 _ _ _ _ _ _ _ _ r2 s1 l1 q1 fun σd2 L2 σ2 q2 w2 s2 l2 => k _ _ _ q2 (w2.trans w1) s2 l2⟩
theorem own_tup {n : Nat} {u : TGs} {u' : TGs'} (h : OwnTs K vs u u') : OwnT K vs (gTup K n u) (gTup' n u') := fun v σ H Q d σd L Q' r hs l q k => by
  cases r with
  | tup s t => exact ⟨_, _, rfl, s, by rw [← t.length]; exact (show _ ∧ _ from q).1, h _ _ _ _ _ _ _ _ t hs l (show _ ∧ _ from q).2 k⟩
  | _ => exact (show False from q).elim
end
@[irreducible] def NxL (W : Nat → LL → Prop) (i : Nat) (L : LL) : Prop := ∃ L6, Cov L L6 ∧ W (i + 1) L6
theorem NxL.elim {W : Nat → LL → Prop} {i : Nat} {L : LL} (h : NxL W i L) : ∃ L6, Cov L L6 ∧ W (i + 1) L6 := by
  unfold NxL at h
  exact h
@[irreducible] def LcI (items : List D) (st : LL → Prop) (g : TG') (tt : TT') (te : TE') (vs : List Nat) (p : Addr) (σ : Sl) (L : LL) (Φ : DK) : Prop := ∃ W : Nat → LL → Prop, (∃ L1, Cov ((p, .lst []) :: L) L1 ∧ W 0 L1) ∧
  (∀ i L d, W i L → items[i]? = some d → st L ∧ g d (wipeD σ vs) L fun σ2 L2 => tt σ2 L2 (fun L3 => te σ2 L3 fun y L4 => ∃ acc L5, Chg L4 p (.lst acc) (.lst (acc ++ [y])) L5 ∧ acc.length ≤ 1000000 ∧ NxL W i L5) (fun L3 => NxL W i L3)) ∧
  (∀ L, W items.length L → st L ∧ Φ (.ref p) L)
def tLc' (w : TI') (g : TG') (tt : TT') (te : TE') (vs : List Nat) : TE' := fun σ L Φ => w σ L fun items st L1 => ∀ p, LcI items st g tt te vs p σ L1 Φ
abbrev PTs' (X : Cx) (ifs : List Expr) (t : TT') : Prop := PTs X ifs (liftT X.K t)
def tYes' : TT' := fun _ L T _ => T L
section
variable {X : Cx} {pos spos : Pos} {w : TI'} {g' : TG'} {g : TG} {tt : TT'} {te : TE'} {elt tg iter : Expr} {ifs : List Expr} {scope : Scope} {own : List (Str × Nat)}
theorem pts_nil' : PTs' X [] tYes' := ⟨fun pins s σ H Q I ⟨σd, L, T, F, hs, hl, ht, k⟩ => pts_nil.run pins s σ H Q I (k.1 L H ht .refl hl)⟩
theorem pts_one' {c : Expr} {t : TT'} (h : PT' X c t) : PTs' X [c] t := pts_one h
theorem lift_lc {σ : L2.St} {H : Hp} {Q : VK} (og : OwnT X.K (own.map (·.2)) g g') (h : liftE X.K (tLc' w g' tt te (own.map (·.2))) σ H Q) : tLc (liftI X.K w) g (liftT X.K tt) (liftE X.K te) (own.map (·.2)) σ H Q := by
  obtain ⟨σd, L, Φ, hs, hl, ht, k⟩ := h
  refine ⟨σd, L, _, hs, hl, ht, fun items st L1 J H1 h1 J1 t1 l1 p hp => ?_⟩
  have h1 := h1 p
  unfold LcI at h1
  obtain ⟨W, ⟨L2, c2, w0⟩, turn, done⟩ := h1
  have tn : TK X.K H1 (upd H1 p (.lst [])) := TK.new hp
  refine ⟨fun i m H' => m = items.length - i ∧ i ≤ items.length ∧ ∃ L', HL X.K H' L' ∧ W i L' ∧ TK X.K H1 H', ⟨items.length, by simp, Nat.zero_le _, L2, (l1.newl hp .nil).cov c2, w0, tn⟩, ?_⟩
  rintro i m H' ⟨rfl, hi, L', hl', w', tk⟩
  by_cases hlt : i < items.length
  · obtain ⟨d, hd⟩ : ∃ d, items[i]? = some d := ⟨items[i], List.getElem?_eq_getElem hlt⟩
    obtain ⟨hst, hg'⟩ := turn i L' d w' hd
    refine .inr ⟨J1.go i L' H' tk hl' hst hlt, fun H3 => ∃ L', HL X.K H3 L' ∧ W (i + 1) L' ∧ TK X.K H1 H3, fun H3 h => ⟨items.length - (i + 1), by omega, rfl, hlt, h⟩, fun x H2 hy => ?_⟩
    obtain ⟨t2, r2, l2⟩ := J1.yld i L' H' x H2 d tk hl' hst hd hy
    have tt2 : TK X.K H1 H2 := tk.trans t2
    refine og _ _ _ _ _ _ _ _ r2 ((hs.mono (t1.trans tt2)).wipe _) l2 hg' fun σd3 L3 σ3 q3 w3 s3 l3 => ⟨w3.trans ?_, σd3, L3, _, _, s3, l3, q3, fun L4 H4 q4 t4 l4 => ?_, fun L4 H4 q4 t4 l4 => ?_⟩
    · exact wipe_wipe σ _
    · refine iteT ?_
      refine ⟨σd3, L4, _, s3.mono t4, l4, q4, fun y L5 vy H5 q5 t5 r5 l5 => ?_⟩
      obtain ⟨acc, L6, c6, z, q6⟩ := q5
      obtain ⟨L7, c7, w7⟩ := q6.elim
      obtain ⟨us, e, ru⟩ := l5.lst c6.has
      obtain ⟨t6, l6⟩ := l5.chgl c6 e (ru.append (.cons r5 .nil))
      exact ⟨us, e, by rw [← ru.length]; exact szl' z, L7, l6.cov c7, w7, ((tt2.trans t4).trans t5).trans t6⟩
    · refine iteF ?_
      obtain ⟨L7, c7, w7⟩ := q4.elim
      exact ⟨L7, l4.cov c7, w7, tt2.trans t4⟩
  · have e : i = items.length := by omega
    subst e
    obtain ⟨hst, q⟩ := done L' w'
    exact .inl ⟨J1.stop L' H' tk hl' hst, k _ _ _ _ q (t1.trans tk) .ref hl'⟩
theorem pe_lc' (hc : X.calm = true) (hN : X.N.Nodup) (hi : PI' X tg iter w) (ok : BlkOk X.N X.env.scope scope own) (og : OwnT X.K (own.map (·.2)) g g')
    (hg : ∀ (s : Shared) (H : Hp) (C : Addr) (cl : List (Str × Addr)) (fp : List Addr), PG (X.blk s H scope (compEnvC scope cl C X.env) fp) tg g) (ht : ∀ (s : Shared) (H : Hp) (C : Addr) (cl : List (Str × Addr)) (fp : List Addr), PTs' (X.blk s H scope (compEnvC scope cl C X.env) fp) ifs tt)
    (he : ∀ (s : Shared) (H : Hp) (C : Addr) (cl : List (Str × Addr)) (fp : List Addr), PE' (X.blk s H scope (compEnvC scope cl C X.env) fp) elt te) (hs : ∀ x, foldedSetIterable iter X.env x = pure x := by intro _; rfl) :
    PE' X (.ListComp elt [⟨tg, iter, ifs, 0⟩] scope pos) (tLc' w g' tt te (own.map (·.2))) :=
  lE (pe_lc hc hN hi ok hg ht he hs) fun σ H Q h => lift_lc og h
theorem ps_setLc' {i : Nat} {y : Str} {py : Pos} (hc : X.calm = true) (hN : X.N.Nodup) (hi : PI' X tg iter w) (ok : BlkOk X.N X.env.scope scope own) (og : OwnT X.K (own.map (·.2)) g g')
    (hg : ∀ (s : Shared) (H : Hp) (C : Addr) (cl : List (Str × Addr)) (fp : List Addr), PG (X.blk s H scope (compEnvC scope cl C X.env) fp) tg g) (ht : ∀ (s : Shared) (H : Hp) (C : Addr) (cl : List (Str × Addr)) (fp : List Addr), PTs' (X.blk s H scope (compEnvC scope cl C X.env) fp) ifs tt)
    (he : ∀ (s : Shared) (H : Hp) (C : Addr) (cl : List (Str × Addr)) (fp : List Addr), PE' (X.blk s H scope (compEnvC scope cl C X.env) fp) elt te)
    (hy : X.N[i]? = some y := by rfl) (hyl : X.env.scope.names.lookup y = some .local := by rfl)
    (hsw : swapsWith (.ListComp elt [⟨tg, iter, ifs, 0⟩] scope pos) (some (.Name y py)) spos.line X.env = pure true := by exact sw_true rfl rfl rfl (by decide +kernel)) (hs : ∀ x, foldedSetIterable iter X.env x = pure x := by intro _; rfl) :
    PS' X (.Assign [.Name y py] (.ListComp elt [⟨tg, iter, ifs, 0⟩] scope pos) spos) (tAsg' (tLc' w g' tt te (own.map (·.2))) (gName' i)) :=
  lS (ps_setLc hc hN hy hyl hsw hi ok hg ht he hs) fun D σ H ⟨σd, L, D', hs, hl, ht, k⟩ => by
    have z : liftE X.K (tLc' w g' tt te (own.map (·.2))) σ H (fun v H1 => gName i v σ H1 D.nx) := ⟨σd, L, _, hs, hl, ht, fun d L1 v H1 h1 t1 r1 l1 => k.nx _ _ _ _ h1 t1 ((hs.mono t1).set r1 i) l1⟩
    exact lift_lc og z
end
end DL

namespace DL
open PySem PySem.Spec PyProof.Rows L2
/-! ### contracts by a small part of the heap -/
inductive Pull : LL → LL → LL → Prop
  | nil {L} : Pull L [] L
  | cons {L a o o' L1 F R} : Sel L a o' L1 → o' = o → Pull L1 F R → Pull L ((a, o) :: F) R
theorem Pull.cov {L F R : LL} (p : Pull L F R) : Cov L (F ++ R) := by
  induction p with
  | nil => exact .refl
  | cons s e _ ih => exact .take s e ih
abbrev Sc := List D → LL → LL → DK → Prop
inductive CtOf (S : Sc) (ds : List D) (L : LL) (Φ : DK) : Prop
  | mk (F R : LL) : Pull L F R → S ds F R Φ → CtOf S ds L Φ
theorem nonly_of {S : Sc} (h : ∀ ds F R Φ, S ds F R Φ → S ds F R fun d L' => d = .non ∧ Φ d L') : NonOnly (CtOf S) := fun ds L Φ ⟨F, R, p, s⟩ => ⟨F, R, p, h _ _ _ _ s⟩
section
variable {P : Program} {w : World} {K : PySem.W.Frag} {mg : Str → Option Value} {base : Heap} {x qual : Str} {params : Arguments} {body : List Stmt} {scope : Scope} {dvs : List V} {kws : List (Str × V)} {f : Addr} {fd : FuncData} {ps N : List Str} {k : Nat} {S : Sc} {t : TS'}
theorem fnOkS (F : FunD K x qual params body scope dvs kws f fd) (sc : FnScope N ps scope) (len : ∀ ds F R Φ, S ds F R Φ → ds.length = ps.length)
    (der : ∀ (cdv : Value) (A : Around) (outer : List Env) (s : Shared) (H : Hp) (E : XK), Room k (A.deeper (envOfC qual scope s.heap.objs.size f cdv)) → PSs' (BX P w K mg base N qual scope f cdv A outer s H E) body t)
    (rd : ∀ ds F R Φ, S ds F R Φ → t (endD Φ) (startD N.length ds) (F ++ R)) : FnOk P w K mg base CX0 (k + 1) f fd ps (liftC K (CtOf S)) := by
  refine F.ok sc (fun vs H Q E ⟨ds, L, Φ, r, _, ⟨F, R, p, s⟩, _⟩ => by rw [← r.length]; exact len ds F R Φ s) fun cdv A outer s H vs Q E hr ⟨ds, L, Φ, r, l, ⟨F, R, p, hs⟩, q⟩ => ⟨_, PSs.nox (der cdv A outer s H E hr), _, F ++ R, endD Φ, sr_start r, l.cov p.cov, rd ds F R Φ hs, ?_, ?_, ?_, ?_⟩
  · rintro σd L2 σ H2 ⟨L3, c3, h3⟩ t2 s2 l2
    exact q _ _ _ _ h3 t2 .non (l2.cov c3)
  · rintro d L2 v H2 ⟨L3, c3, h3⟩ t2 r2 l2
    exact q _ _ _ _ h3 t2 r2 (l2.cov c3)
  · intro _ _ _ _ h
    exact (show False from h).elim
  · intro _ _ _ _ h
    exact (show False from h).elim
end
/-! ### loops by an invariant over data -/
/-- the state is that of some x -/
def WI {α : Type} (S : α → Sl) (F : α → LL) (I : α → Prop) (μ : α → Nat) : Nat → Sl → LL → Prop := fun m σ L => ∃ x, σ = S x ∧ L = F x ∧ I x ∧ m = μ x
theorem WhileI.inv {α : Type} {c : TT'} {tb : TS'} {D : EndsD} {σ : Sl} {L : LL} (S : α → Sl) (F : α → LL) (I : α → Prop) (μ : α → Nat) (x0 : α) (h1 : Sub σ (S x0)) (h2 : Cov L (F x0)) (h3 : I x0)
    (step : ∀ x, I x → c (S x) (F x) (fun L1 => tb { D with nx := Nxt (WI S F I μ) (μ x), ct := Nxt (WI S F I μ) (μ x), bk := D.nx } (S x) L1) (fun L1 => D.nx (S x) L1)) : WhileI c tb D σ L := by
  unfold WhileI
  refine ⟨WI S F I μ, ⟨μ x0, S x0, F x0, h1, h2, x0, rfl, rfl, h3, rfl⟩, ?_⟩
  rintro m σ L ⟨x, rfl, rfl, hx, rfl⟩
  exact step x hx
theorem Nxt.mk {α : Type} {S : α → Sl} {F : α → LL} {I : α → Prop} {μ : α → Nat} {m : Nat} {σ : Sl} {L : LL} (y : α) (h1 : Sub σ (S y)) (h2 : Cov L (F y)) (h3 : I y) (h4 : μ y < m) : Nxt (WI S F I μ) m σ L := by
  unfold Nxt
  exact ⟨μ y, h4, S y, F y, h1, h2, y, rfl, rfl, h3, rfl⟩
def FI {α : Type} (S : Nat → α → Sl) (F : Nat → α → LL) (I : Nat → α → Prop) : Nat → Sl → LL → Prop := fun i σ L => ∃ x, σ = S i x ∧ L = F i x ∧ I i x
theorem ForI.inv {α : Type} {items : List D} {st : LL → Prop} {g : TG'} {tb : TS'} {D : EndsD} {σ : Sl} {L : LL} (S : Nat → α → Sl) (F : Nat → α → LL) (I : Nat → α → Prop) (x0 : α) (h1 : Sub σ (S 0 x0)) (h2 : Cov L (F 0 x0)) (h3 : I 0 x0)
    (step : ∀ i x d, items[i]? = some d → I i x → st (F i x) ∧ g d (S i x) (F i x) fun σ2 L2 => tb { D with nx := Nx1 (FI S F I) i, ct := Nx1 (FI S F I) i, bk := D.nx } σ2 L2)
    (done : ∀ x, I items.length x → st (F items.length x) ∧ D.nx (S items.length x) (F items.length x)) : ForI items st g tb D σ L := by
  unfold ForI
  refine ⟨FI S F I, ⟨_, _, h1, h2, x0, rfl, rfl, h3⟩, ?_, ?_⟩
  · rintro i σ L d ⟨x, rfl, rfl, hx⟩ hd
    exact step i x d hd hx
  · rintro σ L ⟨x, rfl, rfl, hx⟩
    exact done x hx
theorem Nx1.mk {α : Type} {S : Nat → α → Sl} {F : Nat → α → LL} {I : Nat → α → Prop} {i : Nat} {σ : Sl} {L : LL} (y : α) (h1 : Sub σ (S (i + 1) y)) (h2 : Cov L (F (i + 1) y)) (h3 : I (i + 1) y) : Nx1 (FI S F I) i σ L := by
  unfold Nx1
  exact ⟨_, _, h1, h2, y, rfl, rfl, h3⟩
def LI {α : Type} (F : Nat → α → LL) (I : Nat → α → Prop) : Nat → LL → Prop := fun i L => ∃ x, L = F i x ∧ I i x
theorem LcI.inv {α : Type} {items : List D} {st : LL → Prop} {g : TG'} {tt : TT'} {te : TE'} {vs : List Nat} {p : Addr} {σ : Sl} {L : LL} {Φ : DK} (F : Nat → α → LL) (I : Nat → α → Prop) (x0 : α) (h2 : Cov ((p, .lst []) :: L) (F 0 x0)) (h3 : I 0 x0)
    (step : ∀ i x d, items[i]? = some d → I i x → st (F i x) ∧ g d (wipeD σ vs) (F i x) fun σ2 L2 => tt σ2 L2 (fun L3 => te σ2 L3 fun y L4 => ∃ acc L5, Chg L4 p (.lst acc) (.lst (acc ++ [y])) L5 ∧ acc.length ≤ 1000000 ∧ NxL (LI F I) i L5) (fun L3 => NxL (LI F I) i L3))
    (done : ∀ x, I items.length x → st (F items.length x) ∧ Φ (.ref p) (F items.length x)) : LcI items st g tt te vs p σ L Φ := by
  unfold LcI
  refine ⟨LI F I, ⟨_, h2, x0, rfl, h3⟩, ?_, ?_⟩
  · rintro i L d ⟨x, rfl, hx⟩ hd
    exact step i x d hd hx
  · rintro L ⟨x, rfl, hx⟩
    exact done x hx
theorem NxL.mk {α : Type} {F : Nat → α → LL} {I : Nat → α → Prop} {i : Nat} {L : LL} (y : α) (h2 : Cov L (F (i + 1) y)) (h3 : I (i + 1) y) : NxL (LI F I) i L := by
  unfold NxL
  exact ⟨_, h2, y, rfl, h3⟩
end DL

namespace DL
open PySem PySem.Spec PyProof.Rows L2
section
variable {X : Cx} {pos : Pos} {e o : Expr} {es : List Expr} {te ta tb : TE'} {t : TA'} {x : Str} {c : Ct} {k n : Nat} {dd : List D}
/-! ### o.f as a target -/
def gFld (K : PySem.W.Frag) (ta : TE) (f : Str) : TG := fun y σ H Q => ta σ H fun x H2 => ∃ a C dx fs, x = .ref a ∧ H2 a = some (.ins C dx fs) ∧ Cls K C ∧ NoAttr K C f ∧ fs.length < 1000 ∧ Q σ (upd H2 a (.ins C dx (putF f y fs)))
theorem pg_fld {f : Str} {ta : TE} (ha : PE X o ta) : PG X (.Attribute o f pos) (gFld X.K ta f) := by
  refine ⟨fun pins s σ H v u Q I r h => ?_⟩
  rw [PySem.assign_Attribute]
  refine wpAny_bind (wpAny_holding (thn (ha.run pins s σ H _ I h) fun ov s1 ⟨x, H1, I1, rx, a, C, dx, fs, ex, ea, c, n, l, q⟩ => ?_))
  subst ex
  obtain rfl : ov = Value.ref a := rx
  refine wpAny_bind (wpAny_standAt (wpAny_bind (wpAny_holding ?_)))
  exact setattr_ok I1 ea c n l r fun s2 I2 => wpAny_release ⟨σ, _, I2, q⟩
def gFld' (C : Addr) (f : Nat) (to : TE') : TG' := fun v σ L k => to σ L fun o L1 => putD C f o v L1 fun L2 => k σ L2
theorem pg_fld' {C : Addr} {f : Nat} {x : Str} (cl : Cls X.K C) (na : NoAttr X.K C x) (ha : PE' X e te) (hx : fname f = x := by rfl) (hf : f < fnames.length := by decide) : PG' X (.Attribute e x pos) (gFld' C f te) :=
  lG (pg_fld ha) fun v σ H Q ⟨d, σd, L, Q', r, hs, hl, h, k⟩ => ⟨σd, L, _, hs, hl, h, fun o L1 vo H1 h1 t1 r1 l1 => by
    cases r1 with
    | ref =>
      obtain ⟨fs, L', c, z, q⟩ := (show ∃ fs, _ from h1)
      obtain ⟨dx, gs, e1, rr⟩ := l1.has c.has
      have t3 : TK X.K H1 (upd H1 _ (.ins C dx (putF x v gs))) := TK.chg e1 trivial
      have zz : fs.length ≤ 900 := Nat.le_of_ble_eq_true z
      refine ⟨_, C, dx, gs, rfl, e1, cl, na, by rw [← rr.length]; omega, k _ _ _ _ q (t1.trans t3) (hs.mono (t1.trans t3)) (l1.chg c rfl e1 trivial ⟨dx, _, upd_same, ?_⟩)⟩
      have z2 := (rr.put hf (r.mono t1)).mono t3
      rw [hx] at z2
      exact z2
    | _ => exact (show False from h1).elim⟩
/-! ### calls with keywords -/
theorem pe_callK' {p : Pos} {ks : List Str} {kws : List Keyword} {tk : TA'} {g : List D → List D → List D} (F : Fnk X.prog X.w X.K X.mg X.base x n ks g c k) (hr : Room k X.A) (hg : Gl X x) (ha : PA' X (e :: es) t) (hkw : PK' X kws tk)
    (hall : (backToKw pos (keywordEach kws X.env)).all (·.1.isSome) = true := by rfl) (hks : (backToKw pos (keywordEach kws X.env)).filterMap (·.1) = ks := by rfl)
    (hdb : (x == ("__debug__" : Str)) = false := by decide) (he : starEach (e :: es) X.env = (false, eval e X.env) :: starEach es X.env := by rfl)
    (hpl : ((backTo pos (starEach (e :: es) X.env)).any (·.1) || (backToKw pos (keywordEach kws X.env)).any (·.1.isNone)) = false := by rfl) {m : Nat} (hm : ks.length = m := by rfl) :
    PE' X (.Call (.Name x p) (e :: es) kws pos) (tCallK' n m g c t tk) := by
  subst hm
  obtain ⟨f, fd, ps, gU, gV, hm, hk, hb, hg2, F⟩ := F.ex
  exact lE (pe_callN F hr hg hm hk hb pass0 ha hkw hall hks hdb he hpl) fun σ H Q ⟨σd, L, Φ, hs, hl, ht, k⟩ => ⟨σd, L, _, hs, hl, ht, fun ds L1 vs H1 h1 t1 r1 l1 => ⟨σd, L1, _, hs.mono t1, l1, h1, fun us L2 ws H2 h2 t2 r2 l2 => by
    obtain ⟨q1, q2, q3⟩ := h2
    exact ⟨r1.length.symm.trans q1, r2.length.symm.trans q2, _, L2, Φ, hg2 _ _ _ _ _ (r1.mono t2) r2 q1 q2, l2, q3, k.mono (t1.trans t2)⟩⟩⟩
theorem pe_callN0 {f : Addr} {fd : FuncData} {ps : List Str} {sp : Sp} {CX : CXT} {E : XK} {p : Pos} {ks : List Str} {kws : List Keyword} {tk : TA} {g : List Value → List Value → List Value} {gV : List V → List V → List V} (F : FnOk X.prog X.w X.K X.mg X.base CX k f fd ps sp) (hr : Room k X.A) (hg : Gl X x) (hm : X.mg x = some (.ref f)) (hk : PySem.W.keepIn X.K (.ref f) = true) (hb : KBn X.K fd ps 0 ks g gV) (hx : Passes CX X E)
    (hkw : PK X kws tk) (hall : (backToKw pos (keywordEach kws X.env)).all (·.1.isSome) = true := by rfl) (hks : (backToKw pos (keywordEach kws X.env)).filterMap (·.1) = ks := by rfl)
    (hdb : (x == ("__debug__" : Str)) = false := by decide)
    (hpl : ((backTo pos (starEach [] X.env)).any (·.1) || (backToKw pos (keywordEach kws X.env)).any (·.1.isNone)) = false := by rfl) :
    PE X (.Call (.Name x p) [] kws pos) (tCallN 0 ks.length sp gV E tNil tk) := by
  refine ⟨fun pins s σ H Q I h => ?_⟩
  refine wpAny_Call_Name_kw (ld_glob I hg hm ?_ hdb)
  refine PySem.W.callWith_KW0 (h₀ := X.base) I.ok.mod.kin hk hall ?_ hpl
  refine thn (hkw.run pos pins s σ H _ I h) fun ws s2 ⟨zs, H2, I2, rz, l1, l2, q2⟩ => ⟨I2.kIn, ?_⟩
  rw [hks]
  exact run_fnN F hr hb hx I2 .nil rz l1 l2 q2
def tCallK0' (m : Nat) (g : List D → List D → List D) (c : Ct) (tk : TA') : TE' := fun σ L Φ => tk σ L fun es L2 => es.length = m ∧ c (g [] es) L2 Φ
theorem pe_callK0' {p : Pos} {ks : List Str} {kws : List Keyword} {tk : TA'} {g : List D → List D → List D} (F : Fnk X.prog X.w X.K X.mg X.base x 0 ks g c k) (hr : Room k X.A) (hg : Gl X x) (hkw : PK' X kws tk)
    (hall : (backToKw pos (keywordEach kws X.env)).all (·.1.isSome) = true := by rfl) (hks : (backToKw pos (keywordEach kws X.env)).filterMap (·.1) = ks := by rfl)
    (hdb : (x == ("__debug__" : Str)) = false := by decide)
    (hpl : ((backTo pos (starEach [] X.env)).any (·.1) || (backToKw pos (keywordEach kws X.env)).any (·.1.isNone)) = false := by rfl) {m : Nat} (hm : ks.length = m := by rfl) :
    PE' X (.Call (.Name x p) [] kws pos) (tCallK0' m g c tk) := by
  subst hm
  obtain ⟨f, fd, ps, gU, gV, hm, hk, hb, hg2, F⟩ := F.ex
  exact lE (pe_callN0 F hr hg hm hk hb pass0 hkw hall hks hdb hpl) fun σ H Q ⟨σd, L, Φ, hs, hl, ht, k⟩ => ⟨σd, L, _, hs, hl, ht, fun us L2 ws H2 h2 t2 r2 l2 => by
    obtain ⟨q2, q3⟩ := h2
    exact ⟨rfl, r2.length.symm.trans q2, _, L2, Φ, hg2 _ _ _ _ _ .nil r2 rfl q2, l2, q3, k.mono t2⟩⟩
/-! two targets -/
def tAsg2' (t : TE') (g1 g2 : TG') : TS' := fun D σ L => t σ L fun d L1 => g1 d σ L1 fun σ1 L2 => g2 d σ1 L2 D.nx
theorem ps_asg2' {t1 t2 : Expr} {g1 g2 : TG'} (he : PE' X e te) (h1 : PG' X t1 g1) (h2 : PG' X t2 g2) (ha : (assignEach [t1, t2] X.env).map (·.2) = [assign t1 X.env, assign t2 X.env] := by rfl) (hw : swappedStores [t1, t2] e X.env = pure none := by rfl) :
    PS' X (.Assign [t1, t2] e pos) (tAsg2' te g1 g2) :=
  lS (ps_asg2 he h1 h2 ha hw) fun D σ H ⟨σd, L, D', hs, hl, ht, k⟩ => ⟨σd, L, _, hs, hl, ht, fun d L1 v H1 h1 t1 r1 l1 => ⟨d, σd, L1, _, r1, hs.mono t1, l1, h1, fun σ2 L2 σ3 H2 h2 t2 s2 l2 => ⟨d, σ2, L2, _, r1.mono t2, s2, l2, h2, KontG.mono (t1.trans t2) k.nx⟩⟩⟩
/-! o.f op= e -/
def tFldAug' (C : Addr) (f : Nat) (to tv : TE') (g : F2) : TS' := fun D σ L => to σ L fun o L1 => match o with
  | .ref a => ∃ fs, Has L1 a (.ins C fs) ∧ getF f fs fun x => tv σ L1 fun y L2 => g x y L2 fun z L3 => putD C f (.ref a) z L3 fun L4 => D.nx σ L4
  | _ => False
theorem ps_fldaug' {C : Addr} {f : Nat} {x : Str} {value : Expr} {tv : TE'} {tpos : Pos} {op : Operator} {g : F2} {rd : V → V → Hp → VK → Prop} (cl : Cls X.K C) (na : NoAttr X.K C x) (od : OpD X.K g rd) (hop : InOp X op rd) (ha : PE' X e te) (hv : PE' X value tv) (hx : fname f = x := by rfl) (hf : f < fnames.length := by decide) :
    PS' X (.AugAssign (.Attribute e x tpos) op value pos) (tFldAug' C f te tv g) :=
  lS (ps_fldaug ha hv hop) fun D σ H ⟨σd, L, D', hs, hl, ht, k⟩ => ⟨σd, L, _, hs, hl, ht, fun o L1 vo H1 h1 t1 r1 l1 => by
    cases r1 with
    | @ref a =>
      obtain ⟨fs, hh, q⟩ := (show ∃ fs, _ from h1)
      obtain ⟨dx, gs, e1, rr⟩ := l1.has hh
      unfold getF at q
      cases eg : getN f fs with
      | none => rw [eg] at q; exact (show False from q).elim
      | some d =>
        rw [eg] at q
        obtain ⟨v, ev, rv⟩ := rr.get hf eg
        rw [hx] at ev
        refine ⟨a, C, dx, gs, v, rfl, e1, cl, na, ev, σd, L1, _, hs.mono t1, l1, q, fun y L2 vy H2 h2 t2 r2 l2 => od _ _ _ _ _ _ _ _ (rv.mono t2) r2 l2 h2 fun z L3 vz H3 h3 t3 r3 l3 => ?_⟩
        obtain ⟨fs', L', c, z, q⟩ := (show ∃ fs, _ from h3)
        obtain ⟨dx', gs', e1', rr'⟩ := l3.has c.has
        have t4 : TK X.K H3 (upd H3 _ (.ins C dx' (putF x vz gs'))) := TK.chg e1' trivial
        have zz : fs'.length ≤ 900 := Nat.le_of_ble_eq_true z
        have tt := ((t1.trans t2).trans t3).trans t4
        refine ⟨dx', gs', e1', by rw [← rr'.length]; omega, k.nx _ _ _ _ q tt (hs.mono tt) (l3.chg c rfl e1' trivial ⟨dx', _, upd_same, ?_⟩)⟩
        have z2 := (rr'.put hf r3).mono t4
        rw [hx] at z2
        exact z2
    | _ => exact (show False from h1).elim⟩
theorem od_inadd {K : PySem.W.Frag} : OpD K (fI fun i j => .int (i + j)) rAdd := fun d1 d2 x y L H Φ Q r1 r2 l h k => by
  cases r1 <;> cases r2 <;> first
    | exact (show False from h).elim
    | exact ⟨_, _, rfl, rfl, k _ _ _ _ h .refl .int l⟩
theorem od_insub {K : PySem.W.Frag} : OpD K (fI fun i j => .int (i - j)) rSub := fun d1 d2 x y L H Φ Q r1 r2 l h k => by
  cases r1 <;> cases r2 <;> first
    | exact (show False from h).elim
    | exact ⟨_, _, rfl, rfl, k _ _ _ _ h .refl .int l⟩
end
end DL

/-! what is walked: lists and tuples in one rule; enumerate over a tuple -/
namespace DL
open PySem PySem.Spec PyProof.Rows L2
section
variable {X : Cx} {tg : Expr}
def iSeqV (K : PySem.W.Frag) (tl : TE) : TI := fun σ H R => tl σ H fun x H1 => ∃ a, x = .ref a ∧ (((∃ xs, SqL K H1 a xs) ∧ R (Itl K a) H1) ∨ ((∃ xs, SqT K H1 a xs) ∧ R (Itt K a) H1))
theorem pi_seqV {l : Expr} {tl : TE} (hl : PE X l tl) : PI X tg l (iSeqV X.K tl) := by
  refine ⟨fun pins s σ H R I h => ?_⟩
  refine thn (hl.run pins s σ H _ I h) fun v s1 ⟨x, H1, I1, r1, a, e, q1⟩ => ?_
  subst e
  cases r1
  have fr : ∀ b ∈ [s1.heap.objs.size], FpOk X pins H1 b := fun b hb => by
    have e : b = s1.heap.objs.size := by simpa using hb
    subst e
    exact I1.fpOk (Nat.le_refl _) (I1.hok.fresh (Nat.le_refl _))
  rcases q1 with ⟨⟨xs, hq⟩, q⟩ | ⟨⟨xs, hq⟩, q⟩
  · obtain ⟨its, rv, p, hz⟩ := I1.list hq
    refine wpAny_pyIter_list p.isList ?_
    exact ⟨s1.heap.objs.size, [s1.heap.objs.size], _, _, H1, rfl, I1.kept (t' := s1.toks) fun b o e => Heap.get?_push_of_some _ e, turn_list a _, ⟨_, Heap.get?_push_size _ rfl, rfl, rfl⟩, fr, q⟩
  · obtain ⟨its, rv, p, hz⟩ := I1.tuple hq
    refine wpAny_pyIter_tuple (show s1.heap.IsTuple a its.toArray from p) ?_
    exact ⟨s1.heap.objs.size, [s1.heap.objs.size], _, _, H1, rfl, I1.kept (t' := s1.toks) fun b o e => Heap.get?_push_of_some _ e, turn_tuple a _, ⟨_, Heap.get?_push_size _ rfl, rfl, rfl⟩, fr, q⟩
end
/-! enumerate(tuple) -/
theorem meets_enum1 {v : Value} {o : Obj} {H : Heap → Prop} (B : Begins v o H) :
    Meets (Builtin.«enumerate.__new__» ⟨[.type "enumerate", v], []⟩) (fun _ R s => H s.heap ∧
      R (.ok (.ret (.ref (s.heap.push o).objs.size))) { s with heap := (s.heap.push o).push { cls := .type "enumerate", data := .fields #[.none, .bool false, .ref s.heap.objs.size, rawInt 0, .none, .none] } }) :=
  .of_wp fun prog w A R s h => by
    obtain ⟨hp, g, d, tk, os⟩ := s; obtain ⟨h1, h⟩ := h
    have hsub := sub_enumerate
    have q1 : ∀ {A' : Around} {E : Value → Shared → Prop} {Q : Value → Shared → Prop}, Q (.ref hp.objs.size) ⟨hp.push o, g, d, tk, os⟩ → wpAny (model prog w) A' (pyIter v) Q E ⟨hp, g, d, tk, os⟩ :=
      fun q => B.iter prog w _ _ ⟨hp, g, d, tk, os⟩ _ h1 q
    wp_walk using q1
    refine wpAny_stack_any fun st => wpAny_pure ?_
    split
    · rename_i c _ _ _ _ _
      cases (c == Value.type "enumerate")
      · wp_walk using q1
        exact ⟨_, rfl, h⟩
      · wp_walk using q1
        exact ⟨_, rfl, h⟩
    · wp_walk using q1
      exact ⟨_, rfl, h⟩
section
variable {prog : Program} {w : World} {A : Around} {E : Value → Shared → Prop} {s : Shared}
theorem enum_begins1 {v : Value} {o : Obj} {H : Heap → Prop} {Q : Value → Shared → Prop} (B : Begins v o H) (h1 : H s.heap)
    (h : ∀ h', IsEnum h' (s.heap.objs.size + 1) s.heap.objs.size 0 .none → h'.get? s.heap.objs.size = some o → h'.objs.size = s.heap.objs.size + 2 →
      (∀ b o, s.heap.get? b = some o → h'.get? b = some o) → Q (.ref (s.heap.objs.size + 1)) { s with heap := h' }) :
    wpAny (model prog w) A (call (.type "enumerate") [v]) Q E s := by
  refine callType_new F.called_enumerate (by decide) (F.typeCall_enumerate_1 _) (F.newCall_enumerate_1 _) (fun obj => F.args_object_init_2 obj _) F.entry_enumerate_new
    (meets_enum1 B) ⟨h1, ?_⟩
  have hz : (s.heap.push o).objs.size = s.heap.objs.size + 1 := Heap.size_push ..
  show _ ∧ _
  rw [hz]
  have he : IsEnum ((s.heap.push o).push { cls := .type "enumerate", data := .fields #[.none, .bool false, .ref s.heap.objs.size, rawInt 0, .none, .none] }) (s.heap.objs.size + 1) s.heap.objs.size 0 .none := by
    have := Heap.get?_push_size (s.heap.push o) (o := { cls := .type "enumerate", data := .fields #[.none, .bool false, .ref s.heap.objs.size, rawInt 0, .none, .none] }) rfl
    rw [hz] at this; exact this
  refine ⟨⟨_, he, rfl⟩, h _ he (Heap.get?_push_of_some _ (Heap.get?_push_size _ B.free)) (by rw [Heap.size_push, hz]) fun b o x => Heap.get?_push_of_some _ (Heap.get?_push_of_some _ x)⟩
end
def IteT (K : PySem.W.Frag) (a : Addr) : It :=
  ⟨fun i H => ∃ (xs : List V) (x : V), SqT K H a xs ∧ xs[i]? = some x, fun i H v H' => ∃ T x, v = .ref T ∧ H T = none ∧ H' = upd H T (.tup [.int (i : Nat), x]) ∧ ∀ xs, SqT K H a xs → xs[i]? = some x, fun i H => ∃ xs : List V, SqT K H a xs ∧ xs.length ≤ i⟩
theorem turn_enumT {P : Program} {w : World} {K : PySem.W.Frag} {elts : List Expr} {kk : Nat} {tpos : Pos} (a e it : Addr) (hai : a ≠ it) (hae : a ≠ e) :
    Turn P w K (.Tuple elts kk tpos) (IteT K a) [e, it] e (fun i h => (∃ old, IsEnum h e it ((i : Nat) : Int) old) ∧ h.IsTupleIter it a i ∧ e ≠ it) where
  mem := by simp
  obj := fun i h st b hb => by
    obtain ⟨⟨old, he⟩, ⟨o, ho, hc, hd⟩, _⟩ := st
    have e' : b = e ∨ b = it := by simpa using hb
    rcases e' with z | z
    · rw [z]; exact ⟨_, he, fun v q => nomatch q⟩
    · rw [z]; exact ⟨o, ho, fun v q => by rw [hd] at q; cases q⟩
  keep := fun i h h' st k => let ⟨⟨old, he⟩, hi, hne⟩ := st; ⟨⟨old, k e (by simp) _ he⟩, hi.at fun o q => k it (by simp) o q, hne⟩
  item := by
    intro X hP hw hK hc i pins s σ H E I hf st hg
    subst hP hw hK
    obtain ⟨⟨old, he⟩, hit, hne⟩ := st
    obtain ⟨xs, x, hq, hx⟩ := hg
    obtain ⟨its, rv, p, hz⟩ := I.tuple hq
    obtain ⟨u, hu, ru⟩ := rv.get hx
    have hel : e < s.heap.objs.size := Heap.lt_size he
    have hil : it < s.heap.objs.size := by obtain ⟨_, q, _⟩ := hit; exact Heap.lt_size q
    have Dr := Draws.tuple (prog := X.prog) (w := X.w) (A := X.A.in1) (I.ok.hd hc) it a hai its.toArray
    refine wpAny_pyNext_enum_itemD Dr he ⟨hit, p⟩ (by
      have := (List.getElem?_eq_some_iff.mp hu).1
      simpa using this) hne (by simp [hne, hae.symm]) fun x' h' tk hx' ho hit' hT hsz hk => ?_
    have ex : x' = u := by
      have q := hx'.symm.trans (show its.toArray[i]? = some u by simpa using hu)
      exact Option.some.inj q
    subst ex
    refine ⟨_, rfl, wpAny_letOwnedTupleGo_enum (s := { s with heap := h', toks := tk + 1 }) ho fun h'' he' sb => ?_⟩
    have hT2 : h''.get? s.heap.objs.size = some { cls := .type "tuple", data := .seq #[.int i tk, x'] } := (sb.2 _ (Nat.ne_of_gt hel)).trans hT
    have new : ObjOk X.prog X.w (upd H s.heap.objs.size (.tup [.int (i : Nat), x])) h'' s.heap.objs.size (.tup [.int (i : Nat), x]) :=
      ⟨by show 2 ≤ sizeLine; decide, [.int i tk, x'], .cons ⟨_, rfl⟩ (.cons ru .nil), ⟨_, hT2, rfl, _, rfl⟩⟩
    have I1 : Inv X pins σ (upd H s.heap.objs.size (.tup [.int (i : Nat), x])) { s with heap := h'', toks := tk + 1 } :=
      I.turnedNew (ch := [e, it]) (fun b ob hb q => (sb.2 b (fun z => hb (by simp [z]))).trans (hk b ob (fun z => hb (by simp [z])) (fun z => hb (by simp [z])) q)) hf (Nat.le_refl _) new
    refine ⟨.ref s.heap.objs.size, _, I1, rfl, ⟨_, x, rfl, I.hok.fresh (Nat.le_refl _), rfl, fun ys hy => by rw [I.tuple_inj hy hq]; exact hx⟩, ⟨⟨x', ?_⟩, hit'.1.at fun o q => (sb.2 it (Ne.symm hne)).trans q, hne⟩, fun b hb => ?_⟩
    · have e1 : ((i + 1 : Nat) : Int) = (i : Int) + 1 := by omega
      rw [e1]; exact he'
    · have hb' : b < s.heap.objs.size := by
        have e' : b = e ∨ b = it := by simpa using hb
        rcases e' with z | z
        · rw [z]; exact hel
        · rw [z]; exact hil
      rw [upd_ne (Nat.ne_of_lt hb')]
      exact (hf b hb).1
  done := by
    intro X hP hw hK hc i pins s σ H E I hf st hg
    subst hP hw hK
    obtain ⟨⟨old, he⟩, hit, hne⟩ := st
    obtain ⟨xs, hq, hx⟩ := hg
    obtain ⟨its, rv, p, hz⟩ := I.tuple hq
    obtain ⟨f0, f1, f2, f3, f4, f5⟩ := hf it (by simp)
    have hl := rv.length
    have hT : s.TypeIs (.ref e) "enumerate" := ⟨_, he, rfl⟩
    unfold pyNext
    refine wpAny_bind (wpAny_attempt (wpAny_callSpecial?_slot (name := Str.ofString "__next__") hT F.slot_enumerate_next
      (wpAny_call_entry F.slot_enumerate_next hT F.entry_enumerate_next ?_ (F.args_enumerate_next_1 _))))
    show wpAny _ _ (field (.ref e) 2 >>= _) _ _ _
    refine wpAny_bind (wpAny_field he rfl (x := .ref it) rfl ?_)
    refine wpAny_bind (wpAny_nextOf_tuple_end (I.ok.hd hc) hit (show s.heap.IsTuple a its.toArray from p) (by simp; omega) fun h' x he' hx' => ?_)
    obtain ⟨o, ho, hc'⟩ := hx'
    refine wpAny_bind (wpAny_isInstance (T := "StopIteration") (b := true) ⟨o, ho, hc'⟩ isSubtype_stop ?_)
    exact wpAny_pure ⟨rfl, I.turned (t' := s.toks) (fun b o hb q => he' b o hb q) f0 f1 f3 f4 f5⟩
  self := fun A i s Q E st h => let ⟨⟨_, he⟩, _⟩ := st; wpAny_pyIter_enum he h
def iEnumV (K : PySem.W.Frag) (ta : TA) : TI := fun σ H R => ta σ H fun vs H1 => ∃ a xs, vs = [.ref a] ∧ ((SqL K H1 a xs ∧ R (Ite K a) H1) ∨ (SqT K H1 a xs ∧ R (IteT K a) H1))
theorem pi_enumV {X : Cx} {e : Expr} {ta : TA} {p pos tpos : Pos} {elts : List Expr} {kk : Nat} (hg : Gl X "enumerate") (hm : X.mg "enumerate" = none) (ha : PA X [e] ta) (hs : starEach [e] X.env = [(false, eval e X.env)] := by rfl) :
    PI X (.Tuple elts kk tpos) (.Call (.Name "enumerate" p) [e] [] pos) (iEnumV X.K ta) := by
  refine ⟨fun pins s σ H R I h => ?_⟩
  refine Call_ (ld_blt I hg hm boot_enumerate (PyProof.Rows.callWith_type1 (thn (ha.run pos pins s σ H _ I h) fun us s1 ⟨vs, H1, I1, r1, q1⟩ => ?_) hs rfl))
  obtain ⟨a, xs, ex, q⟩ := q1
  subst ex
  cases r1 with
  | cons r rr =>
    cases rr
    cases r
    have fr : ∀ b ∈ [s1.heap.objs.size + 1, s1.heap.objs.size], FpOk X pins H1 b := fun b hb => by
      have e' : b = s1.heap.objs.size + 1 ∨ b = s1.heap.objs.size := by simpa using hb
      have hle : s1.heap.objs.size ≤ b := by
        rcases e' with z | z
        · rw [z]; exact Nat.le_add_right _ _
        · rw [z]; exact Nat.le_refl _
      exact I1.fpOk hle (I1.hok.fresh hle)
    rcases q with ⟨hq, q⟩ | ⟨hq, q⟩
    · obtain ⟨its, rv, p', hz⟩ := I1.list hq
      refine call_enumerate_list p'.isList fun h' he hit hsz hk => wpAny_pyIter_enum he ?_
      have I2 : Inv X pins σ H1 { s1 with heap := h' } := I1.kept (t' := s1.toks) hk
      exact ⟨s1.heap.objs.size + 1, [s1.heap.objs.size + 1, s1.heap.objs.size], _, _, H1, rfl, I2, turn_enum a (s1.heap.objs.size + 1) s1.heap.objs.size, ⟨⟨.none, he⟩, hit, Nat.succ_ne_self _⟩, fr, q⟩
    · obtain ⟨its, rv, p', hz⟩ := I1.tuple hq
      obtain ⟨o1, ho1, _⟩ := id p'
      have hal : a < s1.heap.objs.size := Heap.lt_size ho1
      refine enum_begins1 (begins_tuple a its.toArray) (show s1.heap.IsTuple a its.toArray from p') fun h' he hit hsz hk => wpAny_pyIter_enum he ?_
      have I2 : Inv X pins σ H1 { s1 with heap := h' } := I1.kept (t' := s1.toks) hk
      exact ⟨s1.heap.objs.size + 1, [s1.heap.objs.size + 1, s1.heap.objs.size], _, _, H1, rfl, I2, turn_enumT a (s1.heap.objs.size + 1) s1.heap.objs.size (Nat.ne_of_lt hal) (Nat.ne_of_lt (Nat.lt_succ_of_lt hal)), ⟨⟨.none, he⟩, ⟨_, hit, rfl, rfl⟩, Nat.succ_ne_self _⟩, fr, q⟩
/-! the readings -/
section
variable {X : Cx} {pos : Pos} {e : Expr} {es : List Expr} {te : TE'} {tA : TA'}
def iSeq' (t : TE') : TI' := fun σ L R => t σ L fun d L1 => match d with
  | .ref a => ∃ ds, HasL L1 a ds ∧ R ds (fun L => HasL L a ds) L1
  | .tup ds => R ds (fun _ => True) L1
  | _ => False
theorem pi_seq' {tg : Expr} (h : PE' X e te) : PI' X tg e (iSeq' te) := lI (pi_seqV h) fun σ H R ⟨σd, L, R', hs, hl, ht, k⟩ => ⟨σd, L, _, hs, hl, ht, fun d L1 v H1 h1 t1 r1 l1 => by
  cases r1 with
  | ref =>
    obtain ⟨ds, hh, q⟩ := (show ∃ ds, _ from h1)
    obtain ⟨vs, e, r⟩ := l1.seq hh
    exact ⟨_, rfl, .inl ⟨⟨vs, e⟩, k _ _ _ _ _ q itr_list t1 l1⟩⟩
  | tup s r => exact ⟨_, rfl, .inr ⟨⟨_, s⟩, k _ _ _ _ _ h1 (itr_tup s r) t1 l1⟩⟩
  | _ => exact (show False from h1).elim⟩
theorem itr_enumT {K : PySem.W.Frag} {H0 : Hp} {a : Addr} {ds : List D} {vs : List V} (s : SqT K H0 a vs) (r : DRs K H0 ds vs) : ItR K H0 (enumD ds) (fun _ => True) (IteT K a) where
  go := fun i L H t l st hi => by
    rw [enumD_length] at hi
    have : i < vs.length := by rw [← r.length]; exact hi
    exact ⟨vs, vs[i], t.1 _ _ s, List.getElem?_eq_getElem this⟩
  yld := fun i L H x H' d t l st hd hy => by
    obtain ⟨T, y, rfl, hT, rfl, hy⟩ := hy
    obtain ⟨de, h1, rfl⟩ := enumD_get hd
    obtain ⟨v, hv, rv⟩ := r.get h1
    have e2 : y = v := Option.some.inj ((hy vs (t.1 _ _ s)).symm.trans hv)
    subst e2
    exact ⟨TK.new hT, dr_newt hT (.cons .int (.cons (rv.mono t) .nil)), l.mono_new hT⟩
  stop := fun L H t l st => ⟨vs, t.1 _ _ s, by rw [enumD_length, r.length]; exact Nat.le_refl _⟩
def iEnumA' (t : TA') : TI' := fun σ L R => t σ L fun ds L1 => one ds fun d => match d with
  | .ref a => ∃ xs, HasL L1 a xs ∧ R (enumD xs) (fun L => HasL L a xs) L1
  | .tup xs => R (enumD xs) (fun _ => True) L1
  | _ => False
theorem pi_enumA' {p tpos : Pos} {elts : List Expr} {kk : Nat} (hg : Gl X "enumerate") (hm : X.mg "enumerate" = none) (ha : PA' X [e] tA) (hs : starEach [e] X.env = [(false, eval e X.env)] := by rfl) :
    PI' X (.Tuple elts kk tpos) (.Call (.Name "enumerate" p) [e] [] pos) (iEnumA' tA) :=
  lI (pi_enumV hg hm ha hs) fun σ H R ⟨σd, L, R', hs, hl, ht, k⟩ => ⟨σd, L, _, hs, hl, ht, fun ds L1 vs H1 h1 t1 r1 l1 => by
    obtain ⟨d, v, rfl, rfl, rd, q⟩ := one_dr r1 h1
    cases rd with
    | ref =>
      obtain ⟨xs, hh, q⟩ := (show ∃ xs, _ from q)
      obtain ⟨us, e, r⟩ := l1.seq hh
      exact ⟨_, us, rfl, .inl ⟨e, k _ _ _ _ _ q itr_enum t1 l1⟩⟩
    | tup s r => exact ⟨_, _, rfl, .inr ⟨s, k _ _ _ _ _ q (itr_enumT s r) t1 l1⟩⟩
    | _ => exact (show False from q).elim⟩
end
end DL

namespace DL
open PySem PySem.Spec PyProof.Rows L2
/-- the exceptions of the program -/
inductive XT where
  | keys | question | answer | answers | order | lengths | blocks | number | heap | nothing | notfin | rowch | large | mismatch | paused
deriving DecidableEq
def XT.name : XT → String
  | .keys => "InvalidKeys" | .question => "InvalidQuestion" | .answer => "InvalidAnswer" | .answers => "InvalidAnswers" | .order => "InvalidOrder" | .lengths => "InvalidLengths" | .blocks => "InvalidBlocks" | .number => "InvalidNumber" | .heap => "InvalidHeap"
  | .nothing => "NothingAsked" | .notfin => "NotFinished" | .rowch => "RowChanged" | .large => "TooLarge" | .mismatch => "Mismatch" | .paused => "Paused"
/-- where the classes stand -/
structure Cl where
  Honest : Addr
  Told : Addr
  Known : Addr
  Sorting : Addr
  Joiner : Addr
  Amid : Addr
  Heapifying : Addr
  Numbering : Addr
  Tally : Addr
  BlockSort : Addr
  Stack : Addr
  Sorter : Addr
  LessSort : Addr
  KeySort : Addr
  Line : Addr
  xa : XT → Addr := fun _ => 0
  sortE : Addr := 0
  xts : List XT := []
  tb : Str × Option Str → Addr := fun _ => 0
/-! ### stops of the walk -/
theorem Br.t {T F : Prop} (h : T) : Br true T F := ⟨fun _ => h, fun z => by cases z⟩
theorem Br.f {T F : Prop} (h : F) : Br false T F := ⟨fun z => by (cases z), fun _ => h⟩
theorem Br.dec {p : Prop} [Decidable p] {T F : Prop} (h : p → T) (k : ¬ p → F) : Br (decide p) T F := ⟨fun z => h (of_decide_eq_true z), fun z => k (of_decide_eq_false z)⟩
theorem Br.ndec {p : Prop} [Decidable p] {T F : Prop} (h : ¬ p → T) (k : p → F) : Br (!decide p) T F := by
  refine ⟨fun z => h ?_, fun z => k ?_⟩
  · simpa using z
  · simpa using z
theorem Br.not {b : Bool} {T F : Prop} (h : Br b F T) : Br (!b) T F := by
  cases b
  · exact ⟨fun _ => h.2 rfl, fun z => by cases z⟩
  · exact ⟨fun z => (by cases z), fun _ => h.1 rfl⟩
end DL

namespace DL
open PySem PySem.Spec PyProof.Rows L2
/-! ### small facts of readings -/
theorem cutD_nat {xs : List D} {a b : Int} (i j : Nat) (ha : a = i) (hb : b = j) (h1 : i ≤ j) (h2 : j ≤ xs.length) : cutD xs (some a) (some b) = (xs.drop i).take (j - i) := by
  subst ha hb
  unfold cutD
  rw [HT.sIx_nat, HT.sIx_nat, Nat.min_eq_left h2, Nat.min_eq_left (Nat.le_trans h1 h2)]
theorem cutD_from {xs : List D} {a : Int} (i : Nat) (ha : a = i) (h1 : i ≤ xs.length) : cutD xs (some a) none = xs.drop i := by
  subst ha
  unfold cutD
  rw [HT.sIx_nat, HT.sIx_none, Nat.min_eq_left h1, List.take_of_length_le (by simp)]
theorem cutD_to {xs : List D} {b : Int} (j : Nat) (hb : b = j) (h2 : j ≤ xs.length) : cutD xs none (some b) = xs.take j := by
  subst hb
  unfold cutD
  rw [HT.sIx_nat, HT.sIx_none, Nat.min_eq_left h2]
  simp
theorem cutD_toAny {xs : List D} {b : Int} (j : Nat) (hb : b = j) : cutD xs none (some b) = xs.take j := by
  subst hb
  unfold cutD
  rw [HT.sIx_nat, HT.sIx_none]
  simp only [List.drop_zero, Nat.sub_zero]
  rcases Nat.le_total j xs.length with h | h
  · rw [Nat.min_eq_left h]
  · rw [Nat.min_eq_right h, List.take_of_length_le (Nat.le_refl _), List.take_of_length_le h]
theorem cutD_all {xs : List D} : cutD xs none none = xs := by
  unfold cutD
  rw [HT.sIx_none, HT.sIx_none]
  simp
theorem cutD_len {xs : List D} {a b : Option Int} : (cutD xs a b).length ≤ xs.length := by
  unfold cutD
  rw [List.length_take, List.length_drop]
  omega
theorem atI_of {α : Type} {xs : List α} {i : Int} {v : α} (j : Nat) (e : i = j) (h : xs[j]? = some v) : atI xs i = some v := by
  subst e
  exact atI_nat h
def dn (i : Nat) : D := .int i
theorem atI_dn {row : List Nat} {i : Int} (j : Nat) (e : i = j) (h : j < row.length) : atI (row.map dn) i = some (dn (row.getD j 0)) := by
  refine atI_of j e ?_
  rw [List.getElem?_map, List.getElem?_eq_getElem h]
  simp [List.getD, List.getElem?_eq_getElem h]
theorem atI_int {row : List Int} {i : Int} (j : Nat) (e : i = j) (h : j < row.length) : atI (row.map D.int) i = some (.int (row.getD j 0)) := by
  refine atI_of j e ?_
  rw [List.getElem?_map, List.getElem?_eq_getElem h]
  simp [List.getD, List.getElem?_eq_getElem h]
theorem ixN_of {n : Nat} {i : Int} (j : Nat) (e : i = j) (h : j < n) : ixN n i = some j := by
  subst e
  unfold ixN
  rw [if_pos (by omega), if_pos (by omega)]
  simp
theorem atI_lastD {α : Type} {xs : List α} {v : α} (h : xs[xs.length - 1]? = some v) : atI xs (-1) = some v := by
  unfold atI ixN
  have : 0 < xs.length := by
    rcases Nat.eq_zero_or_pos xs.length with z | z
    · rw [List.length_eq_zero_iff.mp z] at h; cases h
    · exact z
  rw [if_neg (by omega), if_pos (by omega)]
  show xs[(-1 + (xs.length : Int)).toNat]? = _
  rw [show (-1 + (xs.length : Int)).toNat = xs.length - 1 by omega]
  exact h
theorem Br.dec_t {p : Prop} [Decidable p] {T F : Prop} (hp : p) (h : T) : Br (decide p) T F := .dec (fun _ => h) fun z => (z hp).elim
theorem Br.dec_f {p : Prop} [Decidable p] {T F : Prop} (hp : ¬ p) (h : F) : Br (decide p) T F := .dec (fun z => (hp z).elim) fun _ => h
theorem Ret.int {L L2 : LL} {Φ : DK} {i j : Int} (c : Cov L L2) (h : Φ (.int i) L2) (e : i = j) : Ret L (Φ (.int j)) := by
  subst e
  exact ⟨L2, c, h⟩
theorem Ret.bl {L L2 : LL} {Φ : DK} {i j : Bool} (c : Cov L L2) (h : Φ (.bl i) L2) (e : i = j) : Ret L (Φ (.bl j)) := by
  subst e
  exact ⟨L2, c, h⟩
theorem Ret.eq {L L2 : LL} {Φ : DK} {i j : D} (c : Cov L L2) (h : Φ i L2) (e : i = j) : Ret L (Φ j) := by
  subst e
  exact ⟨L2, c, h⟩
end DL

namespace DL
open PySem PySem.Spec PyProof.Rows L2
theorem Sel.chg {L L1 : LL} {a : Addr} {o : LO} (o' : LO) (s : Sel L a o L1) : ∃ L5, Chg L a o o' L5 ∧ Sel L5 a o' L1 := by
  induction s with
  | here => exact ⟨_, .here, .here⟩
  | there _ ih =>
    obtain ⟨L5, c, s⟩ := ih
    exact ⟨_, .there c, .there s⟩
theorem Cov.chg {L M : LL} {a : Addr} {o : LO} (o' : LO) (c : Cov L ((a, o) :: M)) : ∃ L5, Chg L a o o' L5 ∧ Cov L5 ((a, o') :: M) := by
  generalize e : (a, o) :: M = N at c
  induction c with
  | refl => subst e; exact ⟨_, .here, .refl⟩
  | drop _ ih =>
    obtain ⟨L5, c, s⟩ := ih e
    exact ⟨_, .there c, .drop s⟩
  | take s eq c _ =>
    cases e
    subst eq
    obtain ⟨L5, c5, s5⟩ := s.chg o'
    exact ⟨L5, c5, .take s5 rfl c⟩
/-- [te for g in items], each item by itself, the heap kept -/
theorem LcI.pure {α : Type} {items : List D} {st : LL → Prop} {g : TG'} {te : TE'} {vs : List Nat} {p : Addr} {σ : Sl} {L : LL} {Φ : DK} (xs : List α) (toD out : α → D) (hi : items = xs.map toD) (hs : ∀ acc, st ((p, .lst acc) :: L)) (hz : xs.length ≤ 1000000)
    (step : ∀ x ∈ xs, ∀ (acc : List D) (Ψ : DK), (∀ L', Cov L' ((p, .lst acc) :: L) → Ψ (out x) L') → g (toD x) (wipeD σ vs) ((p, .lst acc) :: L) fun σ2 L2 => te σ2 L2 Ψ) (done : Φ (.ref p) ((p, .lst (xs.map out)) :: L)) : LcI items st g tYes' te vs p σ L Φ := by
  subst hi
  refine LcI.inv (α := Unit) (fun i _ => (p, .lst ((xs.take i).map out)) :: L) (fun _ _ => True) () .refl trivial ?_ ?_
  · intro i u d hd _
    refine ⟨hs _, ?_⟩
    rw [List.getElem?_map] at hd
    obtain ⟨x, hx, rfl⟩ := Option.map_eq_some_iff.mp hd
    have hlt : i < xs.length := (List.getElem?_eq_some_iff.mp hx).1
    refine step x (List.mem_of_getElem? hx) _ _ fun L' c' => ?_
    obtain ⟨L5, c5, v5⟩ := c'.chg (.lst ((xs.take i).map out ++ [out x]))
    refine ⟨_, L5, c5, ?_, ?_⟩
    · rw [List.length_map, List.length_take]
      omega
    · refine NxL.mk () ?_ trivial
      have e : (xs.take i).map out ++ [out x] = (xs.take (i + 1)).map out := by
        rw [List.take_add_one, hx]
        simp
      rw [← e]
      exact v5
  · intro u _
    refine ⟨hs _, ?_⟩
    rw [List.length_map, List.take_length]
    exact done
theorem mulOk_r {i j : Int} (h1 : -(2 ^ 64) < j) (h2 : j < 2 ^ 64) : MulOk i j := .inl (.inr ⟨h1, h2⟩)
theorem mulOk_l {i j : Int} (h1 : -(2 ^ 64) < i) (h2 : i < 2 ^ 64) : MulOk i j := .inl (.inl ⟨h1, h2⟩)
theorem divOk_of {j : Int} (h1 : 0 < j) (h2 : j < 2 ^ 100) : DivOk j := by
  refine ⟨h1, ?_⟩
  have : j.natAbs.log2 < 100 := by
    have h3 : j.natAbs < 2 ^ 100 := by omega
    rcases Nat.eq_zero_or_pos j.natAbs with z | z
    · rw [z]; decide
    · exact (Nat.log2_lt (by omega)).mpr h3
  omega
theorem eqvAll_ints : ∀ xs ys : List Int, PyData.eqvAll (xs.map .int) (ys.map .int) = decide (xs = ys)
  | [], [] => by simp [PyData.eqvAll]
  | [], y :: ys => by simp [PyData.eqvAll]
  | x :: xs, [] => by simp [PyData.eqvAll]
  | x :: xs, y :: ys => by
    simp only [List.map_cons, PyData.eqvAll, PyData.eqv, eqvAll_ints xs ys]
    by_cases h : x = y
    · subst h; simp
    · simp [h]
theorem deepE.ints {a b : Addr} {L : LL} {xs ys : List Int} {k : Bool → Prop} (ha : HasL L a (xs.map .int)) (hb : HasL L b (ys.map .int)) (h : k (decide (xs = ys))) : deepE (.ref a) (.ref b) L k := by
  refine .mk (.list (xs.map .int)) (.list (ys.map .int)) (.lst ha (DpDs.ints xs)) (.lst hb (DpDs.ints ys)) ?_
  have e : PyData.eqv (.list (xs.map .int)) (.list (ys.map .int)) = decide (xs = ys) := by
    rw [PyData.eqv]
    exact eqvAll_ints xs ys
  rw [e]
  exact h
theorem deepE.tints {L : LL} {xs ys : List Int} {k : Bool → Prop} (h : k (decide (xs = ys))) : deepE (.tup (xs.map .int)) (.tup (ys.map .int)) L k := by
  refine .mk (.tuple (xs.map .int)) (.tuple (ys.map .int)) (.tup (DpDs.ints xs)) (.tup (DpDs.ints ys)) ?_
  have e : PyData.eqv (.tuple (xs.map .int)) (.tuple (ys.map .int)) = decide (xs = ys) := by
    rw [PyData.eqv]
    exact eqvAll_ints xs ys
  rw [e]
  exact h
/-! ### ends of a law -/
theorem fnOkF {P : Program} {w : World} {K : PySem.W.Frag} {mg : Str → Option Value} {base : Heap} {x qual : Str} {params : Arguments} {body : List Stmt} {scope : Scope} {dvs : List V} {kws : List (Str × V)} {f : Addr} {fd : FuncData} {ps : List Str} {k : Nat}
    (_F : FunD K x qual params body scope dvs kws f fd) : FnOk P w K mg base CX0 k f fd ps (liftC K fun _ _ _ => False) :=
  ⟨fun _ _ _ _ h => by obtain ⟨_, _, _, _, _, h, _⟩ := h; exact h.elim, fun _ _ _ _ _ _ _ _ _ _ _ _ _ h => by obtain ⟨_, _, _, _, _, h, _⟩ := h; exact h.elim⟩
theorem law_start {K : PySem.W.Frag} {H : Hp} {S : Sc} {a : Addr} {ns : List Int} {E : XK} (hO : Only H) (hS : SqL K H a (ns.map V.int)) (h : True → S [.ref a] ([(a, .ro (ns.map .int))]) [] fun d _ => d = .bl true) :
    liftC K (CtOf S) [.ref a] H (fun v _ => v = .bl true) E := by
  refine ⟨[.ref a], [(a, .ro (ns.map .int))], fun d _ => d = .bl true, .cons .ref .nil, ⟨fun p hp => ?_, by simp⟩, ⟨_, _, .cons .here rfl .nil, h trivial⟩, fun d L v H' e _ r _ => ?_⟩
  · simp only [List.mem_singleton] at hp
    subst hp
    refine ⟨ns.map V.int, ?_, DRs.ints ns⟩
    rcases hS with (hS | ⟨o, hS⟩) | hS
    · rcases hO a with e | ⟨o, xs, e⟩
      · rw [e] at hS; cases hS
      · rw [e] at hS; cases hS
    · exact .inl ⟨o, hS⟩
    · exact .inr hS
  · subst e
    cases r
    rfl
theorem kbn_plain {K : PySem.W.Frag} {x qual : Str} {params : Arguments} {body : List Stmt} {scope : Scope} {f : Addr} {fd : FuncData} {ps : List Str} {n : Nat} {ks : List Str} (F : FunD K x qual params body scope [] [] f fd)
    (h : ∀ (kV doc pm : Value) (an : Option Addr) (cdv ct : Value) (us ws : List Value), us.length = n → ws.length = ks.length → bindArgs (PySem.W.fnOf x qual params body scope .none kV doc pm an cdv ct) ⟨us, ks.zip ws⟩ = pure (ps.zip (us ++ ws))) :
    KBn K fd ps n ks (fun us ws => us ++ ws) fun vs zs => vs ++ zs := by
  obtain ⟨oc, od, dV, kV, doc, pm, an, cdv, ct, osl, rfl, lk, hcd, hD, hK⟩ := F.ex
  rcases hD with ⟨_, rfl⟩ | ⟨e, _⟩
  · exact ⟨fun s us ws _ l1 l2 => .of_eq (h kV doc pm an cdv ct us ws l1 l2), fun r1 r2 => r1.append r2⟩
  · exact absurd rfl e
end DL

/-! in, not in over flat items; sorted of ints; a conditional expression as a test -/
namespace DL
open PySem PySem.Spec PyProof.Rows L2
section
variable {X : Cx} {K : PySem.W.Frag} {pos : Pos} {e a b c : Expr} {es : List Expr} {te ta tb : TE'}
def flatD : D → Bool
  | .non => true
  | .bl _ => true
  | .int _ => true
  | .str _ => true
  | _ => false
def dv : D → V
  | .non => .non
  | .bl x => .bl x
  | .int i => .int i
  | .str x => .str x
  | _ => .non
theorem flat_dv {H : Hp} {d : D} {v : V} (r : DR K H d v) (f : flatD d = true) : v = dv d ∧ flatV v = true := by
  cases r <;> first | exact ⟨rfl, rfl⟩ | cases f
theorem flats_dv {H : Hp} : ∀ {ds : List D} {vs : List V}, DRs K H ds vs → ds.all flatD = true → vs = ds.map dv ∧ vs.all flatV = true
  | _, _, .nil, _ => ⟨rfl, rfl⟩
  | _, _, .cons r t, f => by
    rw [List.all_cons, Bool.and_eq_true] at f
    obtain ⟨e1, e2⟩ := flat_dv r f.1
    obtain ⟨e3, e4⟩ := flats_dv t f.2
    subst e1 e3
    exact ⟨rfl, by rw [List.all_cons, e2, e4]; rfl⟩
def inD (x : D) (ds : List D) : Bool := inV (dv x) (ds.map dv)
def fIn : F2 := fun x y L Φ => starD y L fun ds => (flatD x = true ∧ ds.all flatD = true) ∧ Φ (.bl (inD x ds)) L
def fNotIn : F2 := fun x y L Φ => starD y L fun ds => (flatD x = true ∧ ds.all flatD = true) ∧ Φ (.bl (!inD x ds)) L
theorem od_in : OpD K fIn (rIn K false) := fun d1 d2 x y L H Φ Q r1 r2 l h k => by
  cases r2 with
  | ref =>
    obtain ⟨ds, hh, ⟨f1, f2⟩, q⟩ := (show ∃ ds, _ from h)
    obtain ⟨vs, e, r⟩ := l.seq hh
    obtain ⟨e1, e2⟩ := flat_dv r1 f1
    obtain ⟨e3, e4⟩ := flats_dv r f2
    subst e1 e3
    exact ⟨_, _, rfl, .inl e, e2, e4, k _ _ _ _ q .refl .bl l⟩
  | tup s t =>
    obtain ⟨⟨f1, f2⟩, q⟩ := (show _ ∧ _ from h)
    obtain ⟨e1, e2⟩ := flat_dv r1 f1
    obtain ⟨e3, e4⟩ := flats_dv t f2
    subst e1 e3
    exact ⟨_, _, rfl, .inr s, e2, e4, k _ _ _ _ q .refl .bl l⟩
  | _ => exact (show False from h).elim
theorem od_notin : OpD K fNotIn (rIn K true) := fun d1 d2 x y L H Φ Q r1 r2 l h k => by
  cases r2 with
  | ref =>
    obtain ⟨ds, hh, ⟨f1, f2⟩, q⟩ := (show ∃ ds, _ from h)
    obtain ⟨vs, e, r⟩ := l.seq hh
    obtain ⟨e1, e2⟩ := flat_dv r1 f1
    obtain ⟨e3, e4⟩ := flats_dv r f2
    subst e1 e3
    exact ⟨_, _, rfl, .inl e, e2, e4, k _ _ _ _ q .refl .bl l⟩
  | tup s t =>
    obtain ⟨⟨f1, f2⟩, q⟩ := (show _ ∧ _ from h)
    obtain ⟨e1, e2⟩ := flat_dv r1 f1
    obtain ⟨e3, e4⟩ := flats_dv t f2
    subst e1 e3
    exact ⟨_, _, rfl, .inr s, e2, e4, k _ _ _ _ q .refl .bl l⟩
  | _ => exact (show False from h).elim
/-! sorted of ints -/
def fSorted : FA := fun ds L Φ => one ds fun d => intsL d L fun ns => ∀ (ns' : List Int) (p : Addr), ns'.Perm ns → ns'.Pairwise (· ≤ ·) → Φ (.ref p) ((p, .lst (ns'.map .int)) :: L)
theorem cd_sorted : CD K fSorted (rSortedI K) := fun ds vs L H Φ Q r l h k => by
  obtain ⟨d, v, rfl, rfl, rd, q⟩ := one_dr r h
  obtain ⟨a, ns, rfl, e, q⟩ := intsL_dr rd l q
  exact ⟨a, ns, rfl, e, fun ns' p h1 h2 hp => k _ _ _ _ (q ns' p h1 h2) (TK.new hp) .ref (l.newl hp (DRs.ints ns'))⟩
/-! a if t else b, as a test -/
def tIfT (t ta tb : TT) : TT := fun σ H Q => t σ H fun c H1 => if c = true then ta σ H1 Q else tb σ H1 Q
theorem pt_ifExpV {t ta tb : TT} (hc : PT X c t) (ha : PT X a ta) (hb : PT X b tb) : PT X (.IfExp c a b pos) (tIfT t ta tb) := by
  refine ⟨fun pins s σ H Q I h => ?_⟩
  refine isTrue_IfExp (thn (hc.run pins s σ H _ I h) fun d s1 ⟨H1, I1, q1⟩ => ?_)
  cases d with
  | true => exact ha.run pins s1 σ H1 Q I1 q1
  | false => exact hb.run pins s1 σ H1 Q I1 q1
def tIfT' (t u v : TT') : TT' := fun σ L T F => t σ L (fun L1 => u σ L1 T F) (fun L1 => v σ L1 T F)
theorem pt_ifExp' {t ta tb : TT'} (hc : PT' X c t) (ha : PT' X a ta) (hb : PT' X b tb) : PT' X (.IfExp c a b pos) (tIfT' t ta tb) :=
  lT (pt_ifExpV hc ha hb) fun σ H Q ⟨σd, L, T, F, hs, hl, ht, k⟩ => ⟨σd, L, _, _, hs, hl, ht, fun L1 H1 q t l => iteT ⟨σd, L1, T, F, hs.mono t, l, q, fun L2 H2 q2 t2 l2 => k.1 _ _ q2 (t.trans t2) l2, fun L2 H2 q2 t2 l2 => k.2 _ _ q2 (t.trans t2) l2⟩,
    fun L1 H1 q t l => iteF ⟨σd, L1, T, F, hs.mono t, l, q, fun L2 H2 q2 t2 l2 => k.1 _ _ q2 (t.trans t2) l2, fun L2 H2 q2 t2 l2 => k.2 _ _ q2 (t.trans t2) l2⟩⟩
end
/-- [te for g in items if tt], each item by itself, the heap kept: out x none: the test fails -/
theorem LcI.sel {α : Type} {items : List D} {st : LL → Prop} {g : TG'} {tt : TT'} {te : TE'} {vs : List Nat} {p : Addr} {σ : Sl} {L : LL} {Φ : DK} (xs : List α) (toD : α → D) (out : α → Option D) (hi : items = xs.map toD) (hs : ∀ acc, st ((p, .lst acc) :: L)) (hz : xs.length ≤ 1000000)
    (step : ∀ x ∈ xs, ∀ (acc : List D) (Ψ : DK) (Z : LL → Prop), (∀ L', Cov L' ((p, .lst acc) :: L) → match out x with
      | some d => Ψ d L'
      | none => Z L') → g (toD x) (wipeD σ vs) ((p, .lst acc) :: L) fun σ2 L2 => tt σ2 L2 (fun L3 => te σ2 L3 Ψ) Z) (done : Φ (.ref p) ((p, .lst (xs.filterMap out)) :: L)) : LcI items st g tt te vs p σ L Φ := by
  subst hi
  refine LcI.inv (α := Unit) (fun i _ => (p, .lst ((xs.take i).filterMap out)) :: L) (fun _ _ => True) () .refl trivial ?_ ?_
  · intro i u d hd _
    refine ⟨hs _, ?_⟩
    rw [List.getElem?_map] at hd
    obtain ⟨x, hx, rfl⟩ := Option.map_eq_some_iff.mp hd
    have hlt : i < xs.length := (List.getElem?_eq_some_iff.mp hx).1
    refine step x (List.mem_of_getElem? hx) _ _ _ fun L' c' => ?_
    cases ho : out x with
    | none =>
      refine NxL.mk () ?_ trivial
      rw [List.take_add_one, hx, List.filterMap_append]
      simpa [ho] using c'
    | some d =>
      obtain ⟨L5, c5, v5⟩ := c'.chg (.lst ((xs.take i).filterMap out ++ [d]))
      refine ⟨_, L5, c5, ?_, ?_⟩
      · refine Nat.le_trans (List.length_filterMap_le ..) ?_
        rw [List.length_take]
        omega
      · refine NxL.mk () ?_ trivial
        rw [List.take_add_one, hx, List.filterMap_append]
        simpa [ho] using v5
  · intro u _
    refine ⟨hs _, ?_⟩
    rw [List.length_map, List.take_length]
    exact done
end DL

/-! exceptions of the program's own classes -/
namespace DL
open PySem PySem.Spec PyProof.Rows L2
/-- which exception, where its dict lies, what stands -/
abbrev XC := XT → Addr → LL → Prop
abbrev CtX := List D → LL → DK → XC → Prop
abbrev ScX := List D → LL → LL → DK → XC → Prop
/-- what is wished of an exception, at the slots where it comes -/
structure XW where
  psi : XT → Addr → Sl → LL → Prop
def XW.no : XW := ⟨fun _ _ _ _ => False⟩
def KontX (K : PySem.W.Frag) (xa : XT → Addr) (H : Hp) (Ψ : XC) (E : XK) : Prop := ∀ C d L H', Ψ C d L → TK K H H' → HL K H' L → E (.ref (xa C)) (some d) H'
def wishV (K : PySem.W.Frag) (xa : XT → Addr) (W : XW) : WX := fun cls d σ H => ∃ C dd σd L, cls = .ref (xa C) ∧ d = some dd ∧ SR K H σd σ ∧ HL K H L ∧ W.psi C dd σd L
def liftCX (K : PySem.W.Frag) (xa : XT → Addr) (c : CtX) : Sp := fun vs H Q E => ∃ ds L Φ Ψ, DRs K H ds vs ∧ HL K H L ∧ c ds L Φ Ψ ∧ Kont K H Φ Q ∧ KontX K xa H Ψ E
theorem takes_no {X : Cx} {xa : XT → Addr} : Takes X (wishV X.K xa XW.no) := takes0.imp fun _ _ _ _ ⟨_, _, _, _, _, _, _, _, h⟩ => h
/-! ### calls -/
section
variable {X : Cx} {CX : CXT} {k : Nat} {f C : Addr} {fd : FuncData} {ps : List Str} {sp : Sp} {ds : List Value} {dvs : List V} {x m : Str} {p pos apos : Pos} {e o : Expr} {es : List Expr} {ta : TE} {t : TA}
theorem run_fnD {pins : List (Addr × Obj)} {σ : L2.St} {H : Hp} {s : Shared} {Q : VK} {us : List Value} {vs : List V} {E : XK} (F : FnOk X.prog X.w X.K X.mg X.base CX k f fd ps sp) (hr : Room k X.A) (hb : Binds X.K fd ps ds) (hd : Vals dvs ds) (hx : PassesAt CX X σ E)
    (I : Inv X pins σ H s) (r : Vals vs us) (h : sp (vs ++ dvs) H Q E) : wpAny (model X.prog X.w) X.A (call (.ref f) us) (EP X pins σ Q) X.xe s := by
  have r2 : Vals (vs ++ dvs) (us ++ ds) := r.append hd
  have hl : (us ++ ds).length = ps.length := by rw [← r2.length]; exact F.len _ _ _ _ h
  refine wpAny_call (codeAny_mono (F.run X.A X.stack s H ⟨us, []⟩ (us ++ ds) (vs ++ dvs) Q E hr I.env0 (hb s us I.kIn hl) r2 h) fun r s' hq => ?_)
  cases r with
  | error e => exact hx pins H s e s' I hq
  | ok fl =>
    cases fl with
    | ret u => exact I.after hq
    | next => exact False.elim hq
    | brk => exact False.elim hq
    | cont => exact False.elim hq
def tCallD (sp : Sp) (dvs : List V) (E : L2.St → XK) (t : TA) : TE := fun σ H Q => t σ H fun vs H1 => sp (vs ++ dvs) H1 Q (E σ)
theorem pe_callD {E : L2.St → XK} (F : FnOk X.prog X.w X.K X.mg X.base CX k f fd ps sp) (hr : Room k X.A) (hg : Gl X x) (hm : X.mg x = some (.ref f)) (hk : PySem.W.keepIn X.K (.ref f) = true) (hb : Binds X.K fd ps ds) (hd : Vals dvs ds) (hx : ∀ σ, PassesAt CX X σ (E σ))
    (ha : PA X (e :: es) t) (hdb : (x == ("__debug__" : Str)) = false := by decide) (he : starEach (e :: es) X.env = (false, eval e X.env) :: starEach es X.env := by rfl) (hpl : (backTo pos (starEach es X.env)).any (·.1) = false := by rfl) :
    PE X (.Call (.Name x p) (e :: es) [] pos) (tCallD sp dvs E t) := by
  refine ⟨fun pins s σ H Q I h => ?_⟩
  refine wpAny_Call_Name_kw (ld_glob I hg hm ?_ hdb)
  refine PySem.W.callWith_K (h₀ := X.base) I.ok.mod.kin hk (thn (ha.run pos pins s σ H _ I h) fun us s1 ⟨vs, H1, I1, r, q⟩ => ⟨I1.kIn, ?_⟩) he hpl
  exact run_fnD F hr hb hd (hx σ) I1 r q
def tMethD (C : Addr) (m : Str) (sp : Sp) (dvs : List V) (E : L2.St → XK) (ta : TE) (t : TA) : TE := fun σ H Q => ta σ H fun x H1 => ∃ a dx fs, x = .ref a ∧ H1 a = some (.ins C dx fs) ∧ fs.lookup m = none ∧ t σ H1 fun vs H2 => sp (x :: (vs ++ dvs)) H2 Q (E σ)
theorem pe_methD {E : L2.St → XK} {pl : Sem Bool} (he : PE X o ta) (c : Cls X.K C) (hm : Meth X.K C m f) (F : FnOk X.prog X.w X.K X.mg X.base CX k f fd ps sp) (hr : Room k X.A) (hb : Binds X.K fd ps ds) (hd : Vals dvs ds) (hx : ∀ σ, PassesAt CX X σ (E σ)) (ha : PA X (e :: es) t)
    (hst : starEach (e :: es) X.env = (false, eval e X.env) :: starEach es X.env := by rfl) (hpl : (backTo pos (starEach es X.env)).any (·.1) = false := by rfl)
    (ht : eval (.Call (.Attribute o m apos) (e :: es) [] pos) X.env = (do
      let ov ← eval o X.env
      standAt apos.atName
      let (f, first) ← holding [ov] (getMethod ov m pl)
      callWith pos f first (backTo pos (starEach (e :: es) X.env)) (backToKw pos (keywordEach [] X.env))) := by rfl) :
    PE X (.Call (.Attribute o m apos) (e :: es) [] pos) (tMethD C m sp dvs E ta t) := by
  refine ⟨fun pins s σ H Q I h => ?_⟩
  refine PySem.W.methodCall_KW (pl := pl) (thn (he.run pins s σ H _ I h) fun u s1 ⟨x, H1, I1, rx, a, dx, fs, ex, ea, l, q⟩ => ?_) ht
  subst ex
  obtain rfl : u = Value.ref a := rx
  refine getmeth_ok I1 ea c hm l ?_
  refine PySem.W.callWith_K (first := [.ref a]) (h₀ := X.base) I.ok.mod.kin hm.kp (thn (ha.run pos pins s1 σ H1 _ I1 q) fun us s2 ⟨vs, H2, I2, r, q2⟩ => ⟨I2.kIn, ?_⟩) hst hpl
  exact run_fnD (us := .ref a :: us) (vs := .ref a :: vs) F hr hb hd (hx σ) I2 (.cons rfl r) q2
theorem pass_w {W : XW} {xa : XT → Addr} (tk : Takes X (wishV X.K xa W)) (σ : L2.St) : PassesAt (L2.CX X.prog X.w) X σ (WE (wishV X.K xa W) σ) := passAt tk σ
end
structure FndX (P : Program) (w : World) (K : PySem.W.Frag) (mg : Str → Option Value) (base : Heap) (xa : XT → Addr) (x : Str) (n : Nat) (dd : List D) (c : CtX) (k : Nat) : Prop where
  ex : ∃ f fd ps ds dvs, mg x = some (.ref f) ∧ PySem.W.keepIn K (.ref f) = true ∧ Binds K fd ps ds ∧ Vals dvs ds ∧ (∀ H, DRs K H dd dvs) ∧ FnOk P w K mg base (L2.CX P w) k f fd ps (liftCX K xa c)
structure MtdX (P : Program) (w : World) (K : PySem.W.Frag) (mg : Str → Option Value) (base : Heap) (xa : XT → Addr) (C : Addr) (m : Str) (dd : List D) (c : CtX) (k : Nat) : Prop where
  cl : Cls K C
  nf : ∀ i, i < fnames.length → fname i ≠ m
  ex : ∃ f fd ps ds dvs, Meth K C m f ∧ Binds K fd ps ds ∧ Vals dvs ds ∧ (∀ H, DRs K H dd dvs) ∧ FnOk P w K mg base (L2.CX P w) k f fd ps (liftCX K xa c)
structure FnkX (P : Program) (w : World) (K : PySem.W.Frag) (mg : Str → Option Value) (base : Heap) (xa : XT → Addr) (x : Str) (n : Nat) (ks : List Str) (g : List D → List D → List D) (c : CtX) (k : Nat) : Prop where
  ex : ∃ f fd ps gU gV, mg x = some (.ref f) ∧ PySem.W.keepIn K (.ref f) = true ∧ KBn K fd ps n ks gU gV ∧ (∀ H ds es vs us, DRs K H ds vs → DRs K H es us → ds.length = n → es.length = ks.length → DRs K H (g ds es) (gV vs us)) ∧ FnOk P w K mg base (L2.CX P w) k f fd ps (liftCX K xa c)
section
variable {X : Cx} {pos : Pos} {e o : Expr} {es : List Expr} {te ta tb : TE'} {t : TA'} {x : Str} {c : CtX} {k n : Nat} {dd : List D} {W : XW} {xa : XT → Addr}
def tCallX' (W : XW) (c : CtX) (dd : List D) (t : TA') : TE' := fun σ L Φ => t σ L fun ds L1 => c (ds ++ dd) L1 Φ fun C d L2 => W.psi C d σ L2
theorem wish_at {H H' : Hp} {σd : Sl} {σ : L2.St} (hs : SR X.K H σd σ) (t : TK X.K H H') : KontX X.K xa H' (fun C d L2 => W.psi C d σd L2) (WE (wishV X.K xa W) σ) := fun C d L H2 h t2 l => ⟨C, d, σd, L, rfl, rfl, hs.mono (t.trans t2), l, h⟩
theorem pe_callX' {p : Pos} (F : FndX X.prog X.w X.K X.mg X.base xa x n dd c k) (tk : Takes X (wishV X.K xa W)) (hr : Room k X.A) (hg : Gl X x) (ha : PA' X (e :: es) t) (hd : (x == ("__debug__" : Str)) = false := by decide)
    (he : starEach (e :: es) X.env = (false, eval e X.env) :: starEach es X.env := by rfl) (hpl : (backTo pos (starEach es X.env)).any (·.1) = false := by rfl) : PE' X (.Call (.Name x p) (e :: es) [] pos) (tCallX' W c dd t) := by
  obtain ⟨f, fd, ps, ds, dvs, hm, hk, hb, hv, hdd, F⟩ := F.ex
  exact lE (pe_callD F hr hg hm hk hb hv (pass_w tk) ha (hdb := hd) (he := he) (hpl := hpl)) fun σ H Q ⟨σd, L, Φ, hs, hl, ht, k⟩ => ⟨σd, L, _, hs, hl, ht, fun ds L1 vs H1 h1 t1 r1 l1 => ⟨_, L1, Φ, _, r1.append (hdd H1), l1, h1, k.mono t1, wish_at hs t1⟩⟩
def tMethX' (W : XW) (C : Addr) (c : CtX) (dd : List D) (to : TE') (t : TA') : TE' := fun σ L Φ => to σ L fun d L1 => match d with
  | .ref a => ∃ fs, Has L1 a (.ins C fs) ∧ t σ L1 fun ds L2 => c (.ref a :: (ds ++ dd)) L2 Φ fun C d L3 => W.psi C d σ L3
  | _ => False
theorem pe_methX' {C : Addr} {m : Str} {apos : Pos} {pl : Sem Bool} (F : MtdX X.prog X.w X.K X.mg X.base xa C m dd c k) (tk : Takes X (wishV X.K xa W)) (hr : Room k X.A) (he : PE' X o te) (ha : PA' X (e :: es) t)
    (hst : starEach (e :: es) X.env = (false, eval e X.env) :: starEach es X.env := by rfl) (hpl : (backTo pos (starEach es X.env)).any (·.1) = false := by rfl)
    (ht : eval (.Call (.Attribute o m apos) (e :: es) [] pos) X.env = (do
      let ov ← eval o X.env
      standAt apos.atName
      let (f, first) ← holding [ov] (getMethod ov m pl)
      callWith pos f first (backTo pos (starEach (e :: es) X.env)) (backToKw pos (keywordEach [] X.env))) := by rfl) : PE' X (.Call (.Attribute o m apos) (e :: es) [] pos) (tMethX' W C c dd te t) := by
  obtain ⟨cl, nf, f, fd, ps, ds, dvs, hm, hb, hv, hdd, F⟩ := F
  exact lE (pe_methD he cl hm F hr hb hv (pass_w tk) ha hst hpl ht) fun σ H Q ⟨σd, L, Φ, hs, hl, ht, k⟩ => ⟨σd, L, _, hs, hl, ht, fun d L1 v H1 h1 t1 r1 l1 => by
    cases r1 with
    | ref =>
      obtain ⟨fs, hh, q⟩ := (show ∃ fs, _ from h1)
      obtain ⟨dx, gs, e1, r⟩ := l1.has hh
      exact ⟨_, dx, gs, rfl, e1, r.none_of nf, σd, L1, _, hs.mono t1, l1, q, fun ds L2 vs H2 h2 t2 r2 l2 => ⟨_, L2, Φ, _, .cons .ref (r2.append (hdd H2)), l2, h2, k.mono (t1.trans t2), wish_at hs (t1.trans t2)⟩⟩
    | _ => exact (show False from h1).elim⟩
end
/-! ### the proof of a def that may raise -/
inductive RaiseTo (L : LL) (g : Addr) (P : Hp → Prop) (k : LL → Prop) : Prop
  | mk (L2 : LL) : Cov L ((g, .gh P) :: L2) → k L2 → RaiseTo L g P k
def defW (Ψ : XC) (g : Addr) (P : Hp → Prop) : XW := ⟨fun C d _ L => RaiseTo L g P (Ψ C d)⟩
inductive CtOfX (S : ScX) (ds : List D) (L : LL) (Φ : DK) (Ψ : XC) : Prop
  | mk (F R : LL) : Pull L F R → S ds F R Φ Ψ → CtOfX S ds L Φ Ψ
theorem HL.ghost {K : PySem.W.Frag} {H : Hp} {L : LL} (h : HL K H L) (g : Addr) (H0 : Hp) (t : TK K H0 H) : HL K H ((g, .gh (TK K H0)) :: L) :=
  ⟨fun q hq => by
    rcases List.mem_cons.mp hq with e | hq
    · subst e
      exact ⟨t, fun H1 H2 a b => a.trans b⟩
    · exact h.ok q hq, List.pairwise_cons.mpr ⟨fun q _ r => (by cases r), h.nd⟩⟩
section
variable {P : Program} {w : World} {K : PySem.W.Frag} {mg : Str → Option Value} {base : Heap} {x qual : Str} {params : Arguments} {body : List Stmt} {scope : Scope} {dvs : List V} {kws : List (Str × V)} {f : Addr} {fd : FuncData} {ps N : List Str} {k : Nat} {S : ScX} {t : XW → TS'} {xa : XT → Addr}
abbrev BXX (P : Program) (w : World) (K : PySem.W.Frag) (mg : Str → Option Value) (base : Heap) (N : List Str) (qual : Str) (scope : Scope) (f : Addr) (cdv : Value) (A : Around) (outer : List Env) (s : Shared) (H : Hp) (E : XK) : Cx := cxOf (L2.CX P w) P w K mg base N qual scope f cdv A outer s H E
theorem fnOkX (F : FunD K x qual params body scope dvs kws f fd) (sc : FnScope N ps scope) (len : ∀ ds F R Φ Ψ, S ds F R Φ Ψ → ds.length = ps.length)
    (der : ∀ (W : XW) (cdv : Value) (A : Around) (outer : List Env) (s : Shared) (H : Hp) (E : XK), Room k (A.deeper (envOfC qual scope s.heap.objs.size f cdv)) → Takes (BXX P w K mg base N qual scope f cdv A outer s H E) (wishV K xa W) →
      PassesOwn (model P w) (BXX P w K mg base N qual scope f cdv A outer s H E).A (BXX P w K mg base N qual scope f cdv A outer s H E).env (BXX P w K mg base N qual scope f cdv A outer s H E).xe → PSs' (BXX P w K mg base N qual scope f cdv A outer s H E) body (t W))
    (rd : ∀ ds F R Φ Ψ g P, S ds F R Φ Ψ → t (defW Ψ g P) (endD Φ) (startD N.length ds) (F ++ (g, .gh P) :: R)) : FnOk P w K mg base (L2.CX P w) (k + 1) f fd ps (liftCX K xa (CtOfX S)) := by
  refine F.ok sc (fun vs H Q E ⟨ds, L, Φ, Ψ, r, _, ⟨F, R, p, s⟩, _⟩ => by rw [← r.length]; exact len ds F R Φ Ψ s) fun cdv A outer s H vs Q E hr ⟨ds, L, Φ, Ψ, r, l, ⟨F, R, p, hs⟩, q, qx⟩ => ?_
  have tk : Takes (BXX P w K mg base N qual scope f cdv A outer s H E) (wishV K xa (defW Ψ 0 (TK K H))) :=
    (takes_of (X := BXX P w K mg base N qual scope f cdv A outer s H E) rfl rfl rfl rfl).imp fun cls d σ H' ⟨C, dd, σd, L', e1, e2, _, hl, ⟨L2, c2, h2⟩⟩ => by
      subst e1 e2
      have h := hl.cov c2
      exact qx _ _ _ _ h2 (h.has Has.here).1 h.tail
  have hl2 : HL K H (F ++ (0, .gh (TK K H)) :: R) := ((l.cov p.cov).ghost 0 H TK.refl).perm List.perm_middle.symm
  refine ⟨_, der _ cdv A outer s H E hr tk (passes_of rfl), _, _, endD Φ, sr_start r, hl2, rd ds F R Φ Ψ 0 (TK K H) hs, ?_, ?_, ?_, ?_⟩
  · rintro σd L2 σ H2 ⟨L3, c3, h3⟩ t2 s2 l2
    exact q _ _ _ _ h3 t2 .non (l2.cov c3)
  · rintro d L2 v H2 ⟨L3, c3, h3⟩ t2 r2 l2
    exact q _ _ _ _ h3 t2 r2 (l2.cov c3)
  · intro _ _ _ _ h
    exact (show False from h).elim
  · intro _ _ _ _ h
    exact (show False from h).elim
end
theorem Br.ndec_t {p : Prop} [Decidable p] {T F : Prop} (hp : ¬ p) (h : T) : Br (!decide p) T F := by
  rw [decide_eq_false hp]
  exact .t h
theorem Br.ndec_f {p : Prop} [Decidable p] {T F : Prop} (hp : p) (h : F) : Br (!decide p) T F := by
  rw [decide_eq_true hp]
  exact .f h
/-- a stop: what follows needs only this -/
inductive Wk (t : TS') (D : EndsD) (σ : Sl) (L : LL) : Prop
  | mk (σ2 : Sl) (L2 : LL) : Sub σ σ2 → Cov L L2 → t D σ2 L2 → Wk t D σ L
def tWk' (t : TS') : TS' := fun D σ L => Wk t D σ L
theorem pss_wk' {X : Cx} {sts : List Stmt} {t : TS'} (h : PSs' X sts t) : PSs' X sts (tWk' t) := lSs h fun D σ H ⟨σd, L, D', hs, hl, ⟨σ2, L2, s2, c2, ht⟩, k⟩ => ⟨σ2, L2, D', hs.sub s2, hl.cov c2, ht, k⟩
/-! ### raise X(e) -/
/-- X's __init__: self.f = v -/
def spI (C : Addr) (f : Str) : Sp := fun vs H Q _ => ∃ (a : Addr) (v : V), vs = [.ref a, v] ∧ H a = some (exo a C none) ∧ ∀ dx, H dx = none → dx ≠ a → Q .non (upd (upd H dx (exd dx [(f, v)])) a (exo a C (some dx)))
structure XcC (P : Program) (w : World) (K : PySem.W.Frag) (mg : Str → Option Value) (base : Heap) (x : Str) (C : Addr) (f : Str) (k : Nat) : Prop where
  T : OexC K C
  gl : mg x = some (.ref C)
  ini : ∃ fI fd ps, PySem.W.findIn K (.ref C) "__init__" = some (some (.ref fI)) ∧ PySem.W.typeIn K (.ref fI) = some (.type "function") ∧ Binds K fd ps [] ∧ FnOk P w K mg base CX0 k fI fd ps (spI C f)
def tRaise' (W : XW) (C : XT) (f : Nat) (te : TE') : TS' := fun _ σ L => te σ L fun d L1 => ∀ p, W.psi C p σ ((p, .xd [(f, d)]) :: L1)
theorem HL.newx {K : PySem.W.Frag} {H : Hp} {L : LL} {p : Addr} {f : Nat} {d : D} {v : V} (h : HL K H L) (hp : H p = none) (hf : f < fnames.length) (r : DR K H d v) : HL K (upd H p (.xd [(fname f, v)])) ((p, .xd [(f, d)]) :: L) :=
  h.new hp ⟨_, upd_same, .cons hf (r.mono (TK.new hp)) .nil⟩
section
variable {X : Cx} {pos pos' p : Pos} {e : Expr} {te : TE'} {x : Str} {k : Nat} {W : XW} {xa : XT → Addr} {C : XT} {f : Nat}
theorem ps_raise' {s : Str} (hc : X.calm = true) (tk : Takes X (wishV X.K xa W)) (B : XcC X.prog X.w X.K X.mg X.base x (xa C) s k) (hr : Room (k + 1) X.A) (hg : Gl X x) (he : PE' X e te) (hs : fname f = s := by rfl) (hf : f < fnames.length := by decide) (hdb : (x == ("__debug__" : Str)) = false := by decide)
    (hst : starEach [e] X.env = (false, eval e X.env) :: starEach [] X.env := by rfl) (hpl : (backTo pos (starEach [] X.env)).any (·.1) = false := by rfl) : PS' X (.Raise (some (.Call (.Name x p) [e] [] pos)) none pos') (tRaise' W C f te) := by
  obtain ⟨T, gl, fI, fd, ps, hi, ht, hb, F⟩ := B
  subst hs
  refine lS (ps_raise hc tk (pmk_oex T hi ht F hr hb .nil pass0 hg gl (pa_cons he pa_nil hst) hdb hst hpl)) fun D σ H ⟨σd, L, D', hs, hl, hw, k⟩ => ?_
  refine ⟨σd, L, _, hs, hl, hw, fun d L1 v H1 h1 t1 r1 l1 => ⟨by show 1 ≤ 1000; decide, fun a na => ⟨a, v, rfl, upd_same, fun dx hdx hne => ⟨rfl, dx, [(fname f, v)], upd_same, ?_, ?_, ?_⟩⟩⟩⟩
  · rw [upd_ne hne, upd_same]
  · rw [upd_ne hne] at hdx
    exact hdx
  · rw [upd_ne hne] at hdx
    have e1 : upd (del (upd (upd (upd H1 a (exo a (xa C) none)) dx (exd dx [(fname f, v)])) a (exo a (xa C) (some dx))) a) dx (.xd [(fname f, v)]) = upd H1 dx (.xd [(fname f, v)]) := by
      funext b
      by_cases hb : b = dx
      · rw [hb, upd_same, upd_same]
      · rw [upd_ne hb, upd_ne hb]
        by_cases ha : b = a
        · rw [ha, del_same]
          exact na.symm
        · rw [del_ne ha, upd_ne ha, upd_ne hb, upd_ne ha]
    rw [e1]
    exact ⟨C, dx, σd, _, rfl, rfl, hs.mono (t1.trans (TK.new hdx)), l1.newx hdx hf r1, h1 dx⟩
end
end DL

/-! what a call with keywords binds -/
namespace DL
open PySem PySem.Spec PyProof.Rows L2
def permL {α : Type} (d : α) (ix : List Nat) (xs : List α) : List α := ix.map fun i => xs.getD i d
theorem vals_getD : ∀ {vs : List V} {us : List Value} (i : Nat), Vals vs us → RelV (vs.getD i .non) (us.getD i .none)
  | _, _, _, .nil => by simp; trivial
  | _, _, 0, .cons a _ => a
  | _, _, i + 1, .cons _ r => by simpa using vals_getD i r
theorem vals_perm {vs : List V} {us : List Value} (r : Vals vs us) : ∀ ix : List Nat, Vals (permL .non ix vs) (permL .none ix us)
  | [] => .nil
  | i :: ix => .cons (vals_getD i r) (vals_perm r ix)
section
variable {K : PySem.W.Frag} {x qual : Str} {params : Arguments} {body : List Stmt} {scope : Scope} {dvs : List V} {kws : List (Str × V)} {f : Addr} {fd : FuncData} {ps : List Str} {n : Nat} {ks : List Str}
theorem kb_plain (F : FunD K x qual params body scope [] [] f fd) (ix : List Nat)
    (h : ∀ (kV doc pm : Value) (an : Option Addr) (cdv ct : Value) (us ws : List Value), us.length = n → ws.length = ks.length → bindArgs (PySem.W.fnOf x qual params body scope .none kV doc pm an cdv ct) ⟨us, ks.zip ws⟩ = pure (ps.zip (permL .none ix (us ++ ws)))) :
    KBn K fd ps n ks (fun us ws => permL .none ix (us ++ ws)) fun vs zs => permL .non ix (vs ++ zs) := by
  obtain ⟨oc, od, dV, kV, doc, pm, an, cdv, ct, osl, rfl, lk, hcd, hD, hK⟩ := F.ex
  rcases hD with ⟨_, rfl⟩ | ⟨e, _⟩
  · exact ⟨fun s us ws _ l1 l2 => .of_eq (h kV doc pm an cdv ct us ws l1 l2), fun r1 r2 => vals_perm (r1.append r2) ix⟩
  · exact absurd rfl e
theorem kb_d (F : FunD K x qual params body scope dvs [] f fd) (ix : List Nat) (hd : dvs ≠ [])
    (h : ∀ (T : Addr) (kV doc pm : Value) (an : Option Addr) (cdv ct : Value) (us its ws : List Value), us.length = n → its.length = dvs.length → ws.length = ks.length →
      ∃ k, bindArgs (PySem.W.fnOf x qual params body scope (.ref T) kV doc pm an cdv ct) ⟨us, ks.zip ws⟩ = seqItems? (.ref T) >>= k ∧ k (some its.toArray) = pure (ps.zip (permL .none ix (us ++ its ++ ws)))) :
    ∃ its : List Value, KBn K fd ps n ks (fun us ws => permL .none ix (us ++ its ++ ws)) fun vs zs => permL .non ix (vs ++ dvs ++ zs) := by
  obtain ⟨oc, od, dV, kV, doc, pm, an, cdv, ct, osl, rfl, lk, hcd, hD, hK⟩ := F.ex
  rcases hD with ⟨e, _⟩ | ⟨_, T, o, its, m, rfl, lT, oT, rT⟩
  · exact absurd e hd
  · refine ⟨its, fun s us ws X l1 l2 => ?_, fun r1 r2 => vals_perm ((r1.append rT).append r2) ix⟩
    obtain ⟨k, e1, e2⟩ := h T kV doc pm an cdv ct us its ws l1 rT.length.symm l2
    refine BindsTo.of_looks fun M => ?_
    rw [e1]
    exact looks_items X lT oT (.of_pure e2)
theorem kb_k (F : FunD K x qual params body scope [] kws f fd) (ms : List (Str × V)) (ix : List Nat) (hk : kws ≠ []) (hms : ∀ q ∈ ms, q ∈ kws)
    (h : ∀ (D : Addr) (doc pm : Value) (an : Option Addr) (cdv ct : Value) (us mv ws : List Value), us.length = n → mv.length = ms.length → ws.length = ks.length →
      KwChain D ((ms.map (·.1)).zip mv) (bindArgs (PySem.W.fnOf x qual params body scope .none (.ref D) doc pm an cdv ct) ⟨us, ks.zip ws⟩) (ps.zip (permL .none ix (us ++ mv ++ ws)))) :
    ∃ mv : List Value, KBn K fd ps n ks (fun us ws => permL .none ix (us ++ mv ++ ws)) fun vs zs => permL .non ix (vs ++ ms.map (·.2) ++ zs) := by
  obtain ⟨oc, od, dV, kV, doc, pm, an, cdv, ct, osl, rfl, lk, hcd, hD, hK⟩ := F.ex
  rcases hD with ⟨_, rfl⟩ | ⟨e, _⟩
  · rcases hK with e | ⟨D, rfl, hq⟩
    · exact absurd e hk
    · obtain ⟨mv, hl, rk, hks⟩ := kwd_vals (ms := ms) fun q hm => hq q (hms q hm)
      exact ⟨mv, fun s us ws X l1 l2 => BindsTo.of_looks fun M => KwChain.looks X hks (h D doc pm an cdv ct us mv ws l1 hl l2), fun r1 r2 => vals_perm ((r1.append rk).append r2) ix⟩
  · exact absurd rfl e
end
end DL

/-! try .. except X as n; n.f, isinstance(n, Y) in the suite -/
namespace DL
open PySem PySem.Spec PyProof.Rows L2
/-- slot i is empty behind the suite -/
def clrD (i : Nat) (D : EndsD) : EndsD := { nx := fun σ L => D.nx (σ.set i none) L, rt := D.rt, bk := fun σ L => D.bk (σ.set i none) L, ct := fun σ L => D.ct (σ.set i none) L }
/-- what an except clause makes of an exception -/
structure TryW (W : XW) (ts : List XT) (mt : XT → Bool) (i : Nat) (th : Addr → XT → Addr → TS') (D : EndsD) (g : Addr) (P : Hp → Prop) (C : XT) (d : Addr) (σ : Sl) (L : LL) : Prop where
  mem : C ∈ ts
  yes : mt C = true → RaiseTo L g P fun L3 => ∀ a, th a C d (clrD i D) (σ.set i (some (.ref a))) L3
  no : mt C = false → W.psi C d σ L
def tTryAs' (W : XW) (ts : List XT) (mt : XT → Bool) (i : Nat) (tb : XW → TS') (th : Addr → XT → Addr → TS') : TS' := fun D σ L => ∀ g P, tb ⟨TryW W ts mt i th D g P⟩ D σ ((g, .gh P) :: L)
theorem EK.clr {K : PySem.W.Frag} {H : Hp} {D' : EndsD} {D : Ends} (k : EK K H D' D) (i : Nat) : EK K H (clrD i D') { nx := fun σ' H' => D.nx (σ'.set i none) H', rt := D.rt, bk := fun σ' H' => D.bk (σ'.set i none) H', ct := fun σ' H' => D.ct (σ'.set i none) H' } where
  nx := fun σd L σ H' h t s l => k.nx _ _ _ _ h t (SR.clear i none s) l
  rt := k.rt
  bk := fun σd L σ H' h t s l => k.bk _ _ _ _ h t (SR.clear i none s) l
  ct := fun σd L σ H' h t s l => k.ct _ _ _ _ h t (SR.clear i none s) l
section
variable {X : Cx} {x n : Str} {c : Value} {i : Nat} {body suite : List Stmt} {b₀ : Stmt} {np pos pos' : Pos} {tb : XW → TS'} {th : Addr → XT → Addr → TS'} {W : XW} {xa : XT → Addr} {ts : List XT} {mt : XT → Bool}
theorem ps_tryAs' (hs : X.stack = X.env :: X.outer) (hf : X.env.frame = some X.env.locals) (hN : X.N.Nodup) (hi : X.N[i]? = some n) (hln : X.env.kindOf n = some .local) (hc : Names X x c) (tk : Takes X (wishV X.K xa W)) (hm : ∀ t ∈ ts, PySem.W.exmOne X.K (.ref (xa t)) c = some (mt t))
    (hb : ∀ (W : XW) (pn : List (Addr × Obj)) (xe : Value → Shared → Prop), Takes (X.tr pn xe) (wishV X.K xa W) → PassesOwn (model X.prog X.w) X.A X.env xe → PSs' (X.tr pn xe) body (tb W))
    (hsu : ∀ (a : Addr) (oe : Obj) (C : XT) (d : Addr) (pn : List (Addr × Obj)), C ∈ ts → Zc (.ref (xa C)) (some d) oe → (∃ vs, oe.data = .fields vs) → PSs' (X.suite a ((a, oe) :: pn)) (b₀ :: suite) (th a C d)) :
    PS' X (.Try body [.ExceptHandler (some (.Name x np)) (some n) (b₀ :: suite) pos'] [] [] pos) (tTryAs' W ts mt i tb th) := by
  refine lS (ps_try_as (i := i) (tb := fun WV D σ H => ∃ W' : XW, (∀ cls d σ' H', wishV X.K xa W' cls d σ' H' → WV cls d σ' H') ∧ liftS X.K (tb W') D σ H)
    (ts := fun a cls d D σ H => ∃ C dd, C ∈ ts ∧ cls = .ref (xa C) ∧ d = some dd ∧ liftS X.K (th a C dd) D σ H) hs hf hN hi hln hc tk (fun WV pn xe tkv po => ?_) (fun a oe cls d pn hz hv => ?_)) fun D σ H ⟨σd, L, D', h1, h2, h3, k⟩ => ?_
  · exact ⟨fun pins s σ H D I ⟨W', imp, h⟩ => (hb W' pn xe (tkv.imp imp) po).run pins s σ H D I h⟩
  · refine ⟨fun pins s σ H D I ⟨C, dd, hC, e1, e2, h⟩ => ?_⟩
    subst e1 e2
    exact (hsu a oe C dd pn hC hz hv).run pins s σ H D I h
  · refine ⟨_, fun cls d σ' H' ⟨C, dd, σ2, L2, e1, e2, s2, l2, hw⟩ => ?_, σd, _, D', h1, h2.ghost 0 H TK.refl, h3 0 (TK X.K H), k⟩
    subst e1 e2
    obtain ⟨mem, yes, no⟩ := hw
    refine ⟨_, hm C mem, fun hb a na => ?_, fun hb => ?_⟩
    · obtain ⟨L3, c3, h3⟩ := yes hb
      have l3 := l2.cov c3
      have t3 : TK X.K H H' := (l3.has Has.here).1
      exact ⟨C, dd, mem, rfl, rfl, _, L3, _, s2.set .ref i, l3.tail, h3 a, (k.mono t3).clr i⟩
    · exact ⟨C, dd, σ2, L2, rfl, rfl, s2, l2, no hb⟩
end
/-! in the suite -/
def tXf' (a dd : Addr) (f : Nat) (te : TE') : TE' := fun σ L Φ => te σ L fun d L1 => match d with
  | .ref x => x = a ∧ ∃ fs, Has L1 dd (.xd fs) ∧ getF f fs fun v => Φ v L1
  | _ => False
section
variable {X : Cx} {a C dd : Addr} {oe : Obj} {pn : List (Addr × Obj)} {e : Expr} {te : TE'} {pos : Pos} {f : Nat} {n : Str}
theorem pe_xf' (T : XfC X.K C) (hno : PySem.W.findIn X.K (.ref C) n = some none) (hz : Zc (.ref C) (some dd) oe) (hv : ∃ vs, oe.data = .fields vs) (he : PE' (X.suite a ((a, oe) :: pn)) e te) (hx : fname f = n := by rfl) (hf : f < fnames.length := by decide)
    (hb : attributeBase e n X.env (eval e X.env) = eval e X.env := by rfl) : PE' (X.suite a ((a, oe) :: pn)) (.Attribute e n pos) (tXf' a dd f te) :=
  lE (pe_xf T hno hz hv he hb) fun σ H Q ⟨σd, L, Φ, hs, hl, ht, k⟩ => ⟨σd, L, _, hs, hl, ht, fun d L1 v H1 h1 t1 r1 l1 => by
    cases r1 with
    | ref =>
      obtain ⟨rfl, fs, hh, q⟩ := (show _ ∧ _ from h1)
      obtain ⟨gs, e1, r⟩ := l1.has hh
      unfold getF at q
      cases eg : getN f fs with
      | none => rw [eg] at q; exact (show False from q).elim
      | some d =>
        rw [eg] at q
        obtain ⟨v, lk, rv⟩ := r.get hf eg
        rw [hx] at lk
        exact ⟨rfl, rfl, dd, gs, v, rfl, e1, lk, k _ _ _ _ q t1 rv l1⟩
    | _ => exact (show False from h1).elim⟩
end
end DL
namespace DL
open PySem PySem.Spec PyProof.Rows L2
/-! isinstance(n, Y) in the suite -/
def tIsE' (a dd : Addr) (b : Bool) (te : TE') : TE' := fun σ L Φ => te σ L fun d L1 => match d with
  | .ref x => x = a ∧ ∃ fs, Has L1 dd (.xd fs) ∧ Φ (.bl b) L1
  | _ => False
/-- what isinstance wants of a caught exception's class -/
structure ExI (K : PySem.W.Frag) (C : Addr) : Prop where
  ga : PySem.W.findIn K (.ref C) "__getattribute__" = some (some (.builtin "BaseException.__getattribute__"))
  gg : PySem.W.findIn K (.ref C) "__getattr__" = some none
  sb : PySem.W.subIn K (.ref C) (.type "BaseException") = some true
  hd : PySem.W.hasDictIn K C = true
  ca : PySem.W.findIn K (.ref C) "__class__" = some (some (.builtin "object.__class__"))
  gs : PySem.W.specialIn K (.builtin "object.__class__") "__get__" = some (some (.builtin "getset_descriptor.__get__"))
  ht : PySem.W.takesIn K (.builtin "object.__class__") = some true
  hm : PySem.W.mroIn K C (.type "object") = some true
def rIsD (K : PySem.W.Frag) (C a dd : Addr) : List V → Hp → VK → Prop := fun xs H Q => ∃ (c : V) (cv : Value) (b : Bool) (fs : List (Str × V)), xs = [.ref a, c] ∧ H dd = some (.xd fs) ∧ (∀ u, RelV c u → u = cv) ∧ PySem.W.kitOne K (.ref C) cv = some b ∧ Q (.bl b) H
theorem call_isD {X : Cx} {a C dd : Addr} {oe : Obj} {pn : List (Addr × Obj)} (T : ExI X.K C) (hz : Zc (.ref C) (some dd) oe) (hf : ∃ vs, oe.data = .fields vs) : CallR (X.suite a ((a, oe) :: pn)) (.builtin "isinstance") (rIsD X.K C a dd) := by
  intro pins s σ H xs us Q I r h
  obtain ⟨c, cv, b, fs, rfl, hdd, hcv, e, q⟩ := h
  match us, r with
  | [_, _], .cons rx (.cons rt .nil) =>
    cases rx
    have ec := hcv _ rt
    subst ec
    obtain ⟨hget, _⟩ := I.pin (a, oe) (List.mem_append.mpr (.inl List.mem_cons_self))
    obtain ⟨vs, hv⟩ := hf
    have hx : ObjOk X.prog X.w H s.heap dd (.xd fs) := I.hok dd _ hdd
    obtain ⟨mA, hns, _⟩ := hx
    obtain ⟨od, ho, _⟩ := lookIn_ns hns
    have J : PySem.W.InstAt s.heap a oe C (some od) := ⟨hget, hz.1, by unfold PySem.W.notCls; rw [hv] <;> rfl, by rw [hz.2]; exact ho⟩
    obtain ⟨cdD, hcD, _⟩ := PySem.W.any_some T.hd
    exact PySem.W.kia_one (PySem.W.kitx_exc (by rw [hcD]; rfl) T.ga T.gg T.sb T.ca T.gs T.ht T.hm) I.kIn J e (fun z => nomatch z) fun tk => ⟨.bl b, H, I.kept (t' := tk) fun _ _ z => z, rfl, q⟩
section
variable {X : Cx} {a C dd : Addr} {oe : Obj} {pn : List (Addr × Obj)} {e : Expr} {te : TE'} {pos p pY : Pos} {Y : Str} {cv : Value} {vY : V} {b : Bool}
theorem pe_isE' (T : ExI X.K C) (hz : Zc (.ref C) (some dd) oe) (hv : ∃ vs, oe.data = .fields vs) (he : PE' (X.suite a ((a, oe) :: pn)) e te) (hY : PE (X.suite a ((a, oe) :: pn)) (.Name Y pY) (tC vY)) (hr : ∀ u, RelV vY u → u = cv) (hk : PySem.W.kitOne X.K (.ref C) cv = some b)
    (hg : Gl X "isinstance") (hm : X.mg "isinstance" = none) (hes : starEach [e, .Name Y pY] X.env = (false, eval e X.env) :: starEach [.Name Y pY] X.env := by rfl) (hpl : (backTo pos (starEach [.Name Y pY] X.env)).any (·.1) = false := by rfl)
    (hY2 : starEach [.Name Y pY] X.env = (false, eval (.Name Y pY) X.env) :: starEach [] X.env := by rfl) : PE' (X.suite a ((a, oe) :: pn)) (.Call (.Name "isinstance" p) [e, .Name Y pY] [] pos) (tIsE' a dd b te) :=
  lE (pe_callB (call_isD T hz hv) hg hm (by rfl) (pa_cons he (pa_cons hY pa_nil hY2) hes) (by decide) (by decide) hes hpl) fun σ H Q ⟨σd, L, Φ, hs, hl, ht, k⟩ => ⟨σd, L, _, hs, hl, ht, fun d L1 v H1 h1 t1 r1 l1 => by
    cases r1 with
    | ref =>
      obtain ⟨rfl, fs, hh, q⟩ := (show _ ∧ _ from h1)
      obtain ⟨gs, e1, r⟩ := l1.has hh
      exact ⟨vY, cv, b, gs, rfl, e1, hr, hk, k _ _ _ _ q t1 .bl l1⟩
    | _ => exact (show False from h1).elim⟩
end
end DL

/-! the program's exception classes: what the head tells of them -/
namespace DL
open PySem PySem.Spec PyProof.Rows L2
/-- the class at C: over ValueError, with a dict -/
def oexB (K : PySem.W.Frag) (C : Addr) : Bool :=
  (match K.lookup C with
    | some ⟨c, _, .cls cd, sl⟩ => decide (c = .type "type") && decide (cd.hasDel = false) && cd.hasDict && (match cd.mro with
      | .ref C1 :: bm => decide (C1 = C) && PySem.HandSPX.refsVE bm
      | _ => false) && (match sl.toList with
      | [_, _, _, _, some (.builtin n), _] => decide (n = "ValueError.__new__")
      | _ => false)
    | _ => false) && (decide (PySem.W.findIn K (.ref C) "__setattr__" = some (some (.builtin "object.__setattr__"))) && (decide (PySem.W.typeIn K (.ref C) = some (.type "type")) && PySem.W.keepIn K (.ref C)))
theorem oexB_ok {K : PySem.W.Frag} {C : Addr} (h : oexB K C = true) (h2 : PySem.W.subIn K (.ref C) (.type "BaseException") = some true) : OexC K C := by
  unfold oexB at h
  simp only [Bool.and_eq_true, decide_eq_true_eq] at h
  obtain ⟨h, h3, h4, h5⟩ := h
  refine ⟨?_, h3, h2, h4, h5⟩
  split at h
  · rename_i c dd cd sl e
    simp only [Bool.and_eq_true, decide_eq_true_eq] at h
    obtain ⟨⟨⟨⟨hc, hd⟩, hh⟩, hm⟩, hs⟩ := h
    subst hc
    obtain ⟨nm, bs, mro, ns, qn, hdc, sn, sub, ab, col, hdel⟩ := cd
    dsimp only at hd hh hm
    subst hd hh
    split at hm
    · rename_i C1 bm
      simp only [Bool.and_eq_true, decide_eq_true_eq] at hm
      obtain ⟨rfl, hr⟩ := hm
      split at hs
      · rename_i k0 k1 k2 k3 n k5 es
        have hn : n = "ValueError.__new__" := of_decide_eq_true hs
        subst hn
        have e2 : sl = #[k0, k1, k2, k3, some (.builtin "ValueError.__new__"), k5] := by
          obtain ⟨l⟩ := sl
          simp only at es
          rw [es]
        subst e2
        exact ⟨nm, qn, ns, bs, bm, sn, sub, ab, col, dd, k0, k1, k2, k3, k5, e, hr⟩
      · cases hs
    · cases hm
  · cases h
/-- isinstance asks its instances rightly -/
def exiB (K : PySem.W.Frag) (C : Addr) : Bool :=
  PySem.W.hasDictIn K C && (decide (PySem.W.findIn K (.ref C) "__class__" = some (some (.builtin "object.__class__"))) && (decide (PySem.W.specialIn K (.builtin "object.__class__") "__get__" = some (some (.builtin "getset_descriptor.__get__"))) &&
    (decide (PySem.W.takesIn K (.builtin "object.__class__") = some true) && decide (PySem.W.mroIn K C (.type "object") = some true))))
/-- SortError.__init__ is ValueError's -/
def seiB (K : PySem.W.Frag) (C : Addr) : Bool :=
  decide (PySem.W.specialIn K (.ref C) "__getattribute__" = some (some (.builtin "type.__getattribute__"))) && (decide (PySem.W.typeIn K (.ref C) = some (.type "type")) && (PySem.W.readsIn K C (.type "type") && (match PySem.W.findCls K (.ref C) (.type "type") "__init__" with
    | some (.val (.builtin n)) => decide (n = "ValueError.__init__")
    | _ => false)))
structure SeI (K : PySem.W.Frag) (C : Addr) : Prop where
  ga : PySem.W.specialIn K (.ref C) "__getattribute__" = some (some (.builtin "type.__getattribute__"))
  ty : PySem.W.typeIn K (.ref C) = some (.type "type")
  rd : PySem.W.readsIn K C (.type "type") = true
  fc : PySem.W.findCls K (.ref C) (.type "type") "__init__" = some (.val (.builtin "ValueError.__init__"))
theorem seiB_ok {K : PySem.W.Frag} {C : Addr} (h : seiB K C = true) : SeI K C := by
  unfold seiB at h
  simp only [Bool.and_eq_true, decide_eq_true_eq] at h
  obtain ⟨h1, h2, h3, h4⟩ := h
  refine ⟨h1, h2, h3, ?_⟩
  split at h4
  · rename_i n e
    rw [e, of_decide_eq_true h4]
  · cases h4
section
variable {X : Cx} {e : Expr} {es : List Expr} {ta : TA} {CS : Addr} {x : Str} {p1 p2 pos : Pos}
theorem pe_seinit {pl : Sem Bool} (S : SeI X.K CS) (hg : Gl X x) (hm : X.mg x = some (.ref CS)) (ha : PA X (e :: es) ta) (hdb : (x == ("__debug__" : Str)) = false := by decide)
    (hc : eval (.Call (.Attribute (.Name x p1) "__init__" p2) (e :: es) [] pos) X.env = (do
      let ov ← eval (.Name x p1) X.env
      standAt p2.atName
      let (f, first) ← holding [ov] (getMethod ov "__init__" pl)
      callWith pos f first (backTo pos (starEach (e :: es) X.env)) (backToKw pos (keywordEach [] X.env))) := by rfl)
    (he : starEach (e :: es) X.env = (false, eval e X.env) :: starEach es X.env := by rfl) (hpl : (backTo pos (starEach es X.env)).any (·.1) = false := by rfl) :
    PE X (.Call (.Attribute (.Name x p1) "__init__" p2) (e :: es) [] pos) (tVeI X.K ta) := by
  refine ⟨fun pins s σ H Q I h => PySem.W.methodCall_KW (ld_glob I hg hm ?_ hdb) hc⟩
  obtain ⟨m, fr⟩ := I.fr
  refine PySem.W.method_of_cls fr I.ok.mod.kin S.ga (PySem.W.cls_val fr I.ok.mod.kin S.ty S.rd S.fc (by decide +kernel) ?_)
  show wpAny _ _ (callWith pos (Value.builtin "ValueError.__init__") [] (backTo pos (starEach (e :: es) X.env)) []) _ _ _
  refine PyProof.Rows.callWith_method1 (thn (ha.run pos pins _ σ H _ (I.tok _) h) fun us s1 ⟨vs, H1, I1, r1, a, C, ws, ev, hl, T, ea, q⟩ => ?_) he hpl
  subst ev
  cases r1 with
  | @cons _ u0 _ ur ra rw' =>
    obtain rfl : u0 = Value.ref a := ra
    exact oinit_ok T I1 ea (by rw [← Paired.length rw', sizeLine_eq]; omega) fun s' J => ⟨.non, H1, J, rfl, q⟩
end
end DL
namespace DL
open PySem PySem.Spec PyProof.Rows L2
/-- all of a class of exceptions: its __init__ at fI keeps the field fld -/
def xcB (K : PySem.W.Frag) (C fI : Addr) (fld : Str) : Bool := oexB K C && (xfB K C && (exiB K C && (decide (PySem.W.findIn K (.ref C) "__init__" = some (some (.ref fI))) && (decide (PySem.W.typeIn K (.ref fI) = some (.type "function")) && decide (PySem.W.findIn K (.ref C) fld = some none)))))
structure XcF (K : PySem.W.Frag) (C fI : Addr) (fld : Str) : Prop where
  o : OexC K C
  f : XfC K C
  i : ExI K C
  ini : PySem.W.findIn K (.ref C) "__init__" = some (some (.ref fI))
  ty : PySem.W.typeIn K (.ref fI) = some (.type "function")
  no : PySem.W.findIn K (.ref C) fld = some none
theorem xcB_ok {K : PySem.W.Frag} {C fI : Addr} {fld : Str} (h : xcB K C fI fld = true) : XcF K C fI fld := by
  unfold xcB at h
  obtain ⟨h1, h⟩ := Bool.and_eq_true_iff.mp h
  obtain ⟨h2, h⟩ := Bool.and_eq_true_iff.mp h
  obtain ⟨h3, h⟩ := Bool.and_eq_true_iff.mp h
  obtain ⟨h4, h⟩ := Bool.and_eq_true_iff.mp h
  obtain ⟨h5, h6⟩ := Bool.and_eq_true_iff.mp h
  have f := xfB_ok h2
  unfold exiB at h3
  simp only [Bool.and_eq_true, decide_eq_true_eq] at h3
  obtain ⟨i1, i2, i3, i4, i5⟩ := h3
  exact ⟨oexB_ok h1 f.exC, f, ⟨f.ga, f.gg, f.exC, f.hdC, i2, i3, i4, i5⟩, of_decide_eq_true h4, of_decide_eq_true h5, of_decide_eq_true h6⟩
end DL

/-! the program's exception classes: their __init__ keeps its field -/
namespace DL
open PySem PySem.Spec PyProof.Rows L2
section
variable {P : Program} {w : World} {K : PySem.W.Frag} {mg : Str → Option Value} {base : Heap} {x qual : Str} {params : Arguments} {body : List Stmt} {scope : Scope} {f C : Addr} {fd : FuncData} {ps N : List Str} {fld m : Str}
def tXini (K : PySem.W.Frag) (m fld : Str) : TS := tSeq (tDrop (tVeI K (tCons (tVar 0) (tCons (tC (.str m)) tNil)))) (tOst K fld (tVar 0) (tVar 1))
theorem xiniOk (F : FunD K x qual params body scope [] [] f fd) (T : XcF K C f fld) (sc : FnScope N ps scope) (lp : ps.length = 2) (lN : N.length = 2)
    (der : ∀ (cdv : Value) (A : Around) (outer : List Env) (s : Shared) (H : Hp) (E : XK), PSs (BX P w K mg base N qual scope f cdv A outer s H E) body (tXini K m fld)) : FnOk P w K mg base CX0 1 f fd ps (spI C fld) := by
  refine F.ok sc (fun vs H Q E ⟨a, v, e, _⟩ => by rw [e, lp]; rfl) fun cdv A outer s H vs Q E hr ⟨a, v, e, h1, h2⟩ => ⟨_, PSs.nox (der cdv A outer s H E), ?_⟩
  subst e
  match N, lN with
  | [_, _], _ =>
    exact ⟨.ref a, rfl, a, C, [.str m], rfl, (show 1 ≤ 1000 by decide), T.o, h1, v, rfl, .ref a, rfl, a, C, rfl, T.o, T.no, .inl ⟨h1, fun dx hd ne => h2 dx hd ne⟩⟩
theorem xc_of (T : XcF K C f fld) (gl : mg x = some (.ref C)) (b : Binds K fd ps []) (F : FnOk P w K mg base CX0 1 f fd ps (spI C fld)) : XcC P w K mg base x C fld 1 := ⟨T.o, gl, f, fd, ps, T.ini, T.ty, b, F⟩
theorem exi_of {K : PySem.W.Frag} {C : Addr} (f : XfC K C) (h : exiB K C = true) : ExI K C := by
  unfold exiB at h
  simp only [Bool.and_eq_true, decide_eq_true_eq] at h
  obtain ⟨i1, i2, i3, i4, i5⟩ := h
  exact ⟨f.ga, f.gg, f.exC, f.hdC, i2, i3, i4, i5⟩
end
end DL

/-! a lambda without parameters handed to a def -/
namespace DL
open PySem PySem.Spec PyProof.Rows L2 LamX
/-- what a call of a lambda does -/
abbrev CtL := LL → DK → XC → Prop
/-- told by its body's term, at the maker's slots -/
def lamC (PP : Hp → Prop) (t : XW → TE') (σ : Sl) : CtL := fun L Φ Ψ => (∃ g, Has L g (.gh PP)) ∧ ∀ g P, t (defW Ψ g P) σ ((g, .gh P) :: L) fun d L2 => Ret L2 (Φ d)
def tAct' (W : XW) (n i : Nat) (f : Addr) (c : CtL) : TE' := fun σ L Φ => Nth σ i fun d => d = .ref f ∧ c L Φ fun C d L2 => W.psi C d (List.replicate n none) L2
abbrev GX (P : Program) (w : World) (K : PySem.W.Frag) (mg : Str → Option Value) (base : Heap) (A : Around) (stk : List Env) (N : List Str) (x : Str) (sg : Scope) (g : Addr) (cdg : Value) (s : Shared) (H : Hp) : Cx := cxOf C8.CX0 P w K mg base N x sg g cdg A stk s H C8.E0
/-- a def of one parameter, which calls what it got -/
structure GvD (P : Program) (w : World) (K : PySem.W.Frag) (mg : Str → Option Value) (base : Heap) (xa : XT → Addr) (x : Str) (n : Nat) (tg : Addr → CtL → TS') : Prop where
  ex : ∃ (g : Addr) (fd : FuncData) (N : List Str) (a : Str) (pg : Arguments) (bg : List Stmt) (sg : Scope), FunD K x x pg bg sg [] [] g fd ∧ mg x = some (.ref g) ∧ Binds K fd [a] [] ∧ FnScope N [a] sg ∧ N.length = n ∧ N[0]? = some a ∧ Vis sg a ∧ (a == ("__debug__" : Str)) = false ∧ (a == ("__classdict__" : Str)) = false ∧
    ∀ (cdg : Value) (A : Around) (stk : List Env) (s : Shared) (H : Hp) (f : Addr) (c : CtL), (∀ (W : XW) (pn : List (Addr × Obj)) (xe : Value → Shared → Prop) (p1 p2 : Pos), Takes ((GX P w K mg base A stk N x sg g cdg s H).tr pn xe) (wishV K xa W) → PE' ((GX P w K mg base A stk N x sg g cdg s H).tr pn xe) (.Call (.Name a p1) [] [] p2) (tAct' W n 0 f c)) →
      PSs' (GX P w K mg base A stk N x sg g cdg s H).nox bg (tg f c)
def tLam' (T : LL → Prop) (tg : Addr → CtL → TS') (n : Nat) (tl : XW → TE') : TE' := fun σ L Φ => T L ∧ ∀ f g PP, tg f (lamC PP tl σ) (endD Φ) (startD n [.ref f]) ((g, .gh PP) :: L)
/-- the table at P stands as it has to -/
def HasT (P : Addr) (q : Str) (L : LL) : Prop := ∃ g Q, Has L g (.gh Q) ∧ ∀ H, Q H → TabS H P q
theorem ExtN.tk {K : PySem.W.Frag} {H H1 : Hp} (e : ExtN H H1) (t : ∀ p ∈ tabsK K, TabS H p.1 p.2 → TabS H1 p.1 p.2) : TK K H H1 := ⟨fun a vs h => by
  rcases h with (h | ⟨ob, h⟩) | h
  · exact .inl (.inl (e _ _ h fun ps z => by cases z))
  · exact .inl (.inr ⟨ob, e _ _ h fun ps z => by cases z⟩)
  · exact .inr h, t, fun c q h => e _ _ h (codeO_ne)⟩
theorem OKo.extN {K : PySem.W.Frag} {H H1 : Hp} {a : Addr} {o : LO} (h : OKo K H a o) (e : ExtN H H1) (t : TK K H H1) : OKo K H1 a o := by
  cases o with
  | ro ds =>
    obtain ⟨vs, h, r⟩ := h
    refine ⟨vs, ?_, r.mono t⟩
    rcases h with ⟨ob, h⟩ | h
    · exact .inl ⟨ob, e _ _ h fun ps z => by cases z⟩
    · exact .inr h
  | lst ds => obtain ⟨vs, h, r⟩ := h; exact ⟨vs, e _ _ h (fun ps z => by cases z), r.mono t⟩
  | ins C fs => obtain ⟨dx, gs, h, r⟩ := h; exact ⟨dx, gs, e _ _ h (fun ps z => by cases z), r.mono t⟩
  | dk kvs => obtain ⟨gs, h, r⟩ := h; exact ⟨gs, e _ _ h (fun ps z => by cases z), r.mono t⟩
  | dt kvs => obtain ⟨gs, h, r⟩ := h; exact ⟨gs, e _ _ h (fun ps z => by cases z), r.mono t⟩
  | xd fs => obtain ⟨gs, h, r⟩ := h; exact ⟨gs, e _ _ h (fun ps z => by cases z), r.mono t⟩
  | gh P => exact ⟨h.2 _ _ h.1 t, h.2⟩
theorem HL.extN {K : PySem.W.Frag} {H H1 : Hp} {L : LL} (h : HL K H L) (e : ExtN H H1) (t : TK K H H1) : HL K H1 L := ⟨fun q hq => (h.ok q hq).extN e t, h.nd⟩
theorem SR.forget {K : PySem.W.Frag} {H : Hp} : ∀ {σ : L2.St}, SR K H (List.replicate σ.length none) σ
  | [] => .nil
  | _ :: _ => .no SR.forget
theorem HL.addgh {K : PySem.W.Frag} {H : Hp} {L : LL} {PP : Hp → Prop} (h : HL K H L) (g : Addr) (hp : PP H) (st : ∀ H1 H2, PP H1 → TK K H1 H2 → PP H2) : HL K H ((g, .gh PP) :: L) :=
  ⟨fun q hq => by
    rcases List.mem_cons.mp hq with e | hq
    · subst e
      exact ⟨hp, st⟩
    · exact h.ok q hq, List.pairwise_cons.mpr ⟨fun q _ r => (by cases r), h.nd⟩⟩
theorem endK {K : PySem.W.Frag} {H : Hp} {Φ : DK} {Q : VK} (k : Kont K H Φ Q) : EK K H (endD Φ) { nx := fun _ H' => Q .non H', rt := Q } where
  nx := fun σd L σ H' ⟨L3, c3, h3⟩ t s l => k _ _ _ _ h3 t .non (l.cov c3)
  rt := fun d L v H' ⟨L3, c3, h3⟩ t r l => k _ _ _ _ h3 t r (l.cov c3)
  bk := fun _ _ _ _ h => (show False from h).elim
  ct := fun _ _ _ _ h => (show False from h).elim
section
variable {X : Cx} {xa : XT → Addr} {x : Str} {c P : Addr} {k n : Nat} {params : Arguments} {body : Expr} {scope : Scope} {tl : XW → TE'} {tg : Addr → CtL → TS'} {p lpos pos : Pos}
/-- the lambda's reading below -/
def lamT (K : PySem.W.Frag) (xa : XT → Addr) (tl : XW → TE') (E : XK) : TE := fun σ H Q => ∃ (Ψ : XC) (Φ : DK) (σd : Sl) (L : LL), SR K H σd σ ∧ HL K H L ∧ KontX K xa H Ψ E ∧ Kont K H Φ Q ∧ ∀ g P, tl (defW Ψ g P) σd ((g, .gh P) :: L) fun d L2 => Ret L2 (Φ d)
def lamTT (K : PySem.W.Frag) (xa : XT → Addr) (tl : XW → TE') (tg : Addr → CtL → TS') (n : Nat) (σ : L2.St) : (XK → Hp → VK → Prop) → Hp → VK → Prop := fun tf H Q => ∃ (σd : Sl) (L : LL) (Φ : DK), SR K H σd σ ∧ HL K H L ∧ Kont K H Φ Q ∧ (∀ E H' Q', lamT K xa tl E σ H' Q' → tf E H' Q') ∧ ∀ f g PP, tg f (lamC PP tl σd) (endD Φ) (startD n [.ref f]) ((g, .gh PP) :: L)
theorem lam_gives {σ : L2.St} {N : List Str} {a q : Str} {sg : Scope} {g : Addr} {cdg : Value} {bg : List Stmt} (hn : N.length = n)
    (der : ∀ (s : Shared) (H : Hp) (f : Addr) (c : CtL), (∀ (W : XW) (pn : List (Addr × Obj)) (xe : Value → Shared → Prop) (p1 p2 : Pos), Takes ((GX X.prog X.w X.K X.mg X.base X.A X.stack N x sg g cdg s H).tr pn xe) (wishV X.K xa W) → PE' ((GX X.prog X.w X.K X.mg X.base X.A X.stack N x sg g cdg s H).tr pn xe) (.Call (.Name a p1) [] [] p2) (tAct' W n 0 f c)) →
      PSs' (GX X.prog X.w X.K X.mg X.base X.A X.stack N x sg g cdg s H).nox bg (tg f c)) : GivesTo X N x sg g cdg bg a q (lamTT X.K xa tl tg n σ) := by
  intro f c' s H Q tf act hc ⟨σd, L, Φ, hs, hl, hk, himp, hrd⟩
  have st : ∀ H1 H2, (TK X.K H H1 ∧ H1 c' = some (CodeO c' q)) → TK X.K H1 H2 → TK X.K H H2 ∧ H2 c' = some (CodeO c' q) := fun H1 H2 h t => ⟨h.1.trans t, t.2.2 _ _ h.2⟩
  refine ⟨_, der s H f (lamC (fun H1 => TK X.K H H1 ∧ H1 c' = some (CodeO c' q)) tl σd) (fun W pn xe p1 p2 tk => ⟨fun pins sZ σZ HZ QZ I ⟨σz, L2, Φ2, z1, z2, z3, z4⟩ => ?_⟩), ?_⟩
  · obtain ⟨d0, v0, hf, hr0, rfl, ⟨g0, hh⟩, ht⟩ := Nth.get z1 z3
    cases hr0
    obtain ⟨⟨t1, hcz⟩, _⟩ := z2.has hh
    refine (act (fun cls d σ' H' => ∃ C dd L, cls = .ref (xa C) ∧ d = some dd ∧ HL X.K H' L ∧ W.psi C dd (List.replicate n none) L) pn xe (fun cls d H' => ∃ C dd L, cls = .ref (xa C) ∧ d = some dd ∧ HL X.K H' L ∧ W.psi C dd (List.replicate n none) L) p1 p2 (fun u s' hx => tk u s' ?_) (fun _ _ _ _ h => h)).run pins sZ σZ HZ QZ I ⟨?_, hcz, himp _ _ _ ⟨_, Φ2, σd, L2, hs.mono t1, z2, fun C d L' H' h t l => ⟨C, d, L', rfl, rfl, l, h⟩, z4, ht⟩⟩
    · obtain ⟨b, B, sI, pins', σ', H', cls, d, e, J, nb, up, sky, na, os, ag, C, dd, L', e1, e2, hl', hw⟩ := hx
      refine ⟨b, B, sI, pins', σ', H', cls, d, e, J, nb, up, sky, na, os, ag, C, dd, List.replicate n none, L', e1, e2, ?_, hl', hw⟩
      have e3 : n = σ'.length := by rw [← hn]; exact J.len.symm
      rw [e3]
      exact SR.forget
    · exact hf
  · refine ⟨startD n [.ref f], _, endD Φ, ?_, hl.addgh _ ⟨TK.refl, hc⟩ st, hrd f 0 _, ?_⟩
    · rw [← hn]
      exact sr_start (.cons .ref .nil)
    · exact endK hk
open Classical in
theorem pe_lam' (G : GvD X.prog X.w X.K X.mg X.base xa x n tg) (hg : Gl X x) (TB : TabB X.base X.mg c P) (hcode : X.env.code = .ref c) (hm : (P, X.env.qual ++ "<lambda>") ∈ tabsK X.K) (hu : ∀ p ∈ tabsK X.K, p.1 = P → p.2 = X.env.qual ++ "<lambda>") (hr : Room (k + 2) X.A) (L : LamS X.env.scope scope)
    (hdef : defaultsOf params X.env = ([], [])) (hbind : ∀ (q : Str) (cl : List (Str × Addr)) (pm cv ctv : Value), bindArgs (PySem.W.kla_fn "<lambda>" q params body scope cl pm cv ctv) ⟨[], []⟩ = pure [])
    (hbody : ∀ (W : XW) (A : Around) (outer : List Env) (s : Shared) (H : Hp) (E : XK) (f c' : Addr), Room k (A.deeper (lamEnv X scope s.heap.objs.size f c')) → Takes (lamCx X A outer s H E scope f c') (wishV X.K xa W) → PE' (lamCx X A outer s H E scope f c') body (tl W))
    (hdb : (x == ("__debug__" : Str)) = false := by decide) : PE' X (.Call (.Name x p) [.Lambda params body scope lpos] [] pos) (tLam' (HasT P (X.env.qual ++ "<lambda>")) tg n tl) := by
  obtain ⟨g, fd, N, a, pg, bg, sg, F, hmg, hb, Sg, hn, h0, hva, hd, hcd, der⟩ := G.ex
  have hk := F.kp
  obtain ⟨oc, od, dV, kV, doc, pm, an, cdv, ct, osl, rfl, lk, hcc, _, _⟩ := F.ex
  refine ⟨fun pins s σ H Q I ⟨σd, L0, Φ, hs, hl, ⟨⟨g0, Qg, hh, hq⟩, ht⟩, kk⟩ => ?_⟩
  have htab : TabS H P (X.env.qual ++ "<lambda>") := hq H (hl.has hh).1
  have lam := pe_lamcall (T := (tabsK X.K).filter (fun p => decide (TabS H p.1 p.2))) (TT := lamTT X.K xa tl tg n σ) (t := lamT X.K xa tl) (p := p) (lpos := lpos) (pos := pos) hg hmg hk lk hcc hb Sg h0 hva (lam_gives hn (der cdv X.A X.stack)) TB hcode (List.mem_filter.mpr ⟨hm, decide_eq_true htab⟩) (fun p hp e => hu p (List.mem_filter.mp hp).1 e) hr L hdef hbind
    (fun A outer s1 H1 E f c' hr1 => ⟨fun pins1 s2 σ2 H2 Q2 I2 ⟨Ψ, Φ2, σd2, L2, z1, z2, z3, z4, z5⟩ => ?_⟩) hdb hd hcd
  · refine lam.run pins s σ H Q I ⟨fun p hp => of_decide_eq_true (List.mem_filter.mp hp).2, fun H1 eN T1 => ?_⟩
    have tk : TK X.K H H1 := ExtN.tk eN fun p hp h => T1 p (List.mem_filter.mpr ⟨hp, decide_eq_true h⟩)
    exact ⟨σd, L0, Φ, hs.mono tk, hl.extN eN tk, kk.mono tk, fun _ _ _ h => h, ht⟩
  · have tk : Takes (lamCx X A outer s1 H1 E scope f c') (wishV X.K xa (defW Ψ 0 (TK X.K H2))) :=
      (takes_of (X := lamCx X A outer s1 H1 E scope f c') rfl rfl rfl rfl).imp fun cls d σ H' ⟨C, dd, σd, L', e1, e2, _, hl, ⟨L3, c2, h2⟩⟩ => by
        subst e1 e2
        have h := hl.cov c2
        exact z3 _ _ _ _ h2 (h.has Has.here).1 h.tail
    exact (hbody _ A outer s1 H1 E f c' hr1 tk).run pins1 s2 σ2 H2 Q2 I2 ⟨σd2, _, _, z1, z2.ghost 0 H2 TK.refl, z5 0 _, fun d L v H' ⟨L3, c3, h3⟩ t r l => z4 _ _ _ _ h3 t r (l.cov c3)⟩
end
/-- what a def that makes lambdas wants of its table, at T -/
structure LamT (K : PySem.W.Frag) (mg : Str → Option Value) (base : Heap) (at_ : Str × Option Str) (T : Addr) : Prop where
  e : (He.cT K at_).2 = T
  tb : TabB base mg (He.codeOf K at_) T
  mem : at_ ∈ lamNames
  un : ∀ p ∈ tabsK K, p.1 = T → p.2 = quOf at_ ++ ".<locals>." ++ "<lambda>"
theorem LamT.in_ {K : PySem.W.Frag} {mg : Str → Option Value} {base : Heap} {at_ : Str × Option Str} {T : Addr} (h : LamT K mg base at_ T) : (T, quOf at_ ++ ".<locals>." ++ "<lambda>") ∈ tabsK K := List.mem_map.mpr ⟨at_, h.mem, by rw [← h.e]⟩
/-- the table's ghost -/
def TabG (cl : Cl) (at_ : Str × Option Str) : Hp → Prop := fun H => TabS H (cl.tb at_) (quOf at_ ++ ".<locals>." ++ "<lambda>")
theorem TabG.st {K : PySem.W.Frag} {cl : Cl} {at_ : Str × Option Str} (h : (He.cT K at_).2 = cl.tb at_) (m : at_ ∈ lamNames) (H1 H2 : Hp) (g : TabG cl at_ H1) (t : TK K H1 H2) : TabG cl at_ H2 := t.2.1 (cl.tb at_, quOf at_ ++ ".<locals>." ++ "<lambda>") (List.mem_map.mpr ⟨at_, m, by rw [← h]⟩) g
section
variable {P : Program} {w : World} {K : PySem.W.Frag} {mg : Str → Option Value} {base : Heap} {x qual : Str} {params : Arguments} {body : List Stmt} {scope : Scope} {dvs : List V} {kws : List (Str × V)} {at_ : Str × Option Str} {fd : FuncData} {ps N : List Str} {k : Nat} {S : Sc} {t : TS'}
theorem fnOkSL (F : FunD K x qual params body scope dvs kws (He.fAd K at_) fd) (sc : FnScope N ps scope) (len : ∀ ds F R Φ, S ds F R Φ → ds.length = ps.length)
    (der : ∀ (A : Around) (outer : List Env) (s : Shared) (H : Hp) (E : XK), Room k (A.deeper (envOfC qual scope s.heap.objs.size (He.fAd K at_) (.ref (He.codeOf K at_)))) → PSs' (BX P w K mg base N qual scope (He.fAd K at_) (.ref (He.codeOf K at_)) A outer s H E) body t)
    (rd : ∀ ds F R Φ, S ds F R Φ → t (endD Φ) (startD N.length ds) (F ++ R)) : FnOk P w K mg base CX0 (k + 1) (He.fAd K at_) fd ps (liftC K (CtOf S)) := by
  obtain ⟨oc, od, dV, kV, doc, pm, an, cdv, ct, osl, rfl, lk, hcd, _, _⟩ := F.ex
  obtain ⟨c, rfl⟩ := He.codeIn_ref hcd
  have ec : He.codeOf K at_ = c := He.codeOf_eq lk rfl
  rw [ec] at der
  exact fn_of lk hcd sc (fun vs H Q E ⟨ds, L, Φ, r, _, ⟨F, R, p, s⟩, _⟩ => by rw [← r.length]; exact len ds F R Φ s) fun A outer s H vs Q E hr ⟨ds, L, Φ, r, l, ⟨F, R, p, hs⟩, q⟩ => ⟨_, PSs.nox (der A outer s H E hr), _, F ++ R, endD Φ, sr_start r, l.cov p.cov, rd ds F R Φ hs, endK q⟩
end
end DL

namespace DL
open PySem PySem.Spec PyProof.Rows L2
local macro_rules | `(tactic| walk_at "has") => `(tactic| first | exact Has.here | (apply Has.there; walk_at "has"))
local macro_rules | `(tactic| walk_at "hasl") => `(tactic| first | (refine Or.inl ?_; walk_at "has") | (refine Or.inr ?_; walk_at "has"))
local macro_rules | `(tactic| walk_at "sel") => `(tactic| first | exact Sel.here | (apply Sel.there; walk_at "sel"))
local macro_rules | `(tactic| walk_at "chg") => `(tactic| first | exact Chg.here | (apply Chg.there; walk_at "chg"))
local macro_rules | `(tactic| walk_at "pull") => `(tactic| first | exact Pull.nil | (apply Pull.cons; (walk_at "sel"); exact rfl; walk_at "pull"))
local macro_rules | `(tactic| walk_at "cov") => `(tactic| first | exact Cov.refl | (apply Cov.take; (walk_at "sel"); (first | exact rfl | assumption); walk_at "cov") | (apply Cov.take; (walk_at "sel"); rotate_left; walk_at "cov") | (refine Cov.drop ?_; walk_at "cov"))
local macro_rules | `(tactic| walk_at "sub") => `(tactic| first | exact Sub.nil | (refine Sub.same (by first | rfl | assumption) ?_; walk_at "sub") | (refine Sub.any ?_; walk_at "sub") | (refine Sub.same ?_ ?_; rotate_left; walk_at "sub"))
local macro_rules | `(tactic| walk_at "side") => `(tactic| first | assumption | (with_reducible rfl) | omega | (refine mulOk_r ?_ ?_ <;> first | omega | decide) | (refine mulOk_l ?_ ?_ <;> first | omega | decide) | (refine divOk_of ?_ ?_ <;> first | omega | decide) | (refine ⟨?_, ?_⟩ <;> walk_at "side") | rfl | (simp <;> omega) | decide)
local macro_rules | `(tactic| walk_at "kn") => `(tactic| first | assumption | decide | rfl)
local macro_rules | `(tactic| walk_at "br") => `(tactic| first | (with_reducible first | refine Br.t ?_ | refine Br.f ?_) | ((with_reducible refine Br.dec_t ?_ ?_); focus walk_at "kn") | ((with_reducible refine Br.dec_f ?_ ?_); focus walk_at "kn") | ((with_reducible refine Br.ndec_t ?_ ?_); focus walk_at "kn") | ((with_reducible refine Br.ndec_f ?_ ?_); focus walk_at "kn") | (with_reducible first | (refine Br.dec ?_ ?_ <;> intro _) | (refine Br.ndec ?_ ?_ <;> intro _)) | refine Br.t ?_ | refine Br.f ?_ | (with_reducible refine Br.mk ?_ ?_ <;> intro _))
local macro_rules | `(tactic| walk_at "st") => `(tactic| ((try (conv => whnf)); first
  | walk_at "br"
  | with_reducible (intro _)
  | (refine ⟨_, (by walk_at "has" : Has _ _ _), ?_⟩)
  | (refine ⟨_, (by walk_at "hasl" : HasL _ _ _), ?_⟩)
  | (refine ⟨_, _, (by walk_at "chg" : Chg _ _ _ _ _), ?_⟩)
  | (refine ⟨_, _, _, (by walk_at "chg" : Chg _ _ _ _ _), (by first | rfl | assumption : ixN _ _ = some _), ?_⟩)
  | (refine ⟨_, _, (by walk_at "sel" : Sel _ _ _ _), ?_⟩)
  | (refine ⟨_, _, _, (by walk_at "has" : Has _ _ _), (by assumption), ?_⟩)
  | (refine ⟨_, (by first | rfl | assumption : atI _ _ = some _), ?_⟩)
  | (refine And.intro (by walk_at "side") ?_)))
local macro_rules | `(tactic| walk_at "st2") => `(tactic| first | walk_at "st" | ((try (conv => whnf)); with_reducible refine And.intro ?_ ?_; rotate_left))
local macro_rules | `(tactic| walk_at "go") => `(tactic| first | ((try (conv => whnf)); walk_at "br" <;> walk_at "go") | (walk_at "st"; walk_at "go") | (conv => whnf) | skip)
def t__law_word (cl : Cl) (f : Addr) (c : CtL) : TS' :=
  tTryAs' XW.no cl.xts (fun _ => true) 1 (fun W1 => tRet' (tTup' (tCons' (tC' (.str "told")) (tCons' (tAct' W1 2 0 f c) (tNil'))))) (fun a1 C1 d1 => tRet' (tIf' (tTru' (tIsE' a1 d1 (decide (C1 = .answers)) (tVar' 1))) (tTup' (tCons' (tC' (.str "answers")) (tCons' (tXf' a1 d1 20 (tVar' 1)) (tNil')))) (tTup' (tCons' (tC' (.str "other")) (tCons' (tC' .non) (tNil'))))))
/-- the except clause: an InvalidAnswers is told by its index -/
theorem tw__law_word (cl : Cl) (Φ : DK) (g : Addr) (P : Hp → Prop) (d : Addr) (L2 : LL) (hC : XT.answers ∈ cl.xts)
    (h : RaiseTo L2 g P fun L3 => ∃ v, Has L3 d (.xd [(20, v)]) ∧ Ret L3 (Φ (.tup [.str "answers", v]))) :
    TryW XW.no cl.xts (fun _ => true) 1 (fun a1 C1 d1 => tRet' (tIf' (tTru' (tIsE' a1 d1 (decide (C1 = .answers)) (tVar' 1))) (tTup' (tCons' (tC' (.str "answers")) (tCons' (tXf' a1 d1 20 (tVar' 1)) (tNil')))) (tTup' (tCons' (tC' (.str "other")) (tCons' (tC' .non) (tNil'))))))
      (endD Φ) g P .answers d (List.replicate 2 none) L2 := by
  obtain ⟨L3, c3, v, hv, hr⟩ := h
  refine ⟨hC, fun _ => ⟨L3, c3, fun a => ?_⟩, fun h => by cases h⟩
  refine ⟨rfl, _, hv, ?_⟩
  refine Br.t ?_
  refine ⟨rfl, _, hv, ?_⟩
  exact ⟨(show 2 ≤ 1000000 by decide), hr⟩
end DL

/-! the program: mirrors and contracts of rows, placing, runs -/
namespace DL
open PySem PySem.Spec PyProof.Rows L2
abbrev Log := List (Nat × Nat × Bool)
def lgD (e : Nat × Nat × Bool) : D := .tup [.tup [.int e.1, .int e.2.1], .bl e.2.2]
def keyN (ms : List Int) (i : Nat) : Int := ms.getD i 0
def lessN (ms : List Int) (i j : Nat) : Bool := decide (keyN ms i < keyN ms j)
/-- an Honest asker -/
def honF (cl : Cl) (h mk la : Addr) (ms : List Int) (lg : Log) : LL := [(h, .ins cl.Honest [(0, .ref mk), (1, .ref la)]), (mk, .lst (ms.map .int)), (la, .lst (lg.map lgD))]
abbrev intsO (ms : List Int) : LO := .lst (ms.map .int)
abbrev rowO (row : List Nat) : LO := .lst (row.map dn)
def Row (ms : List Int) (row : List Nat) : Prop := ∀ x ∈ row, x < ms.length
/-! rows -/
/-- .. whose marks have something behind them that is never asked -/
def honG (cl : Cl) (h mk la : Addr) (ms : List Int) (x : List D) (lg : Log) : LL := [(h, .ins cl.Honest [(0, .ref mk), (1, .ref la)]), (mk, .lst (ms.map .int ++ x)), (la, .lst (lg.map lgD))]
theorem honG_nil (cl : Cl) (h mk la : Addr) (ms : List Int) (lg : Log) : honG cl h mk la ms [] lg = honF cl h mk la ms lg := by unfold honG honF; rw [List.append_nil]
/-- a list or a tuple of these -/
def seqG (d : D) (xs : List D) (F : LL) : Prop := (∃ q, d = .ref q ∧ F = [(q, .lst xs)]) ∨ (d = .tup xs ∧ F = [])
def S_Honest_init (cl : Cl) : Sc := fun ds F R Φ => ∃ (h : Addr) (d : D) (xs : List D) (Fq : LL), ds = [.ref h, d] ∧ F = (h, .ins cl.Honest []) :: Fq ∧ seqG d xs Fq ∧ ∀ mk la, Φ .non ([(h, .ins cl.Honest [(0, .ref mk), (1, .ref la)]), (mk, .lst xs), (la, .lst [])] ++ Fq ++ R)
def C_Honest___init__ (cl : Cl) : Ct := CtOf (S_Honest_init cl)
def S_less (cl : Cl) : Sc := fun ds F R Φ => ∃ (h mk la : Addr) (ms : List Int) (x : List D) (lg : Log) (i j : Nat), ds = [.ref h, .int i, .int j] ∧ F = honG cl h mk la ms x lg ∧ (i < ms.length ∧ j < ms.length ∧ lg.length ≤ 1000000) ∧
  Φ (.bl (lessN ms i j)) (honG cl h mk la ms x (lg ++ [(i, j, lessN ms i j)]) ++ R)
def C_Honest_less (cl : Cl) : Ct := CtOf (S_less cl)
def S_is_integer (cl : Cl) : Sc := fun ds F R Φ => ∃ i : Int, ds = [.int i] ∧ F = [] ∧ Φ (.bl true) R
def C_is_integer (cl : Cl) : Ct := CtOf (S_is_integer cl)
def S_is_between (cl : Cl) : Sc := fun ds F R Φ => ∃ i lo hi : Int, ds = [.int i, .int lo, .int hi] ∧ F = [] ∧ Φ (.bl (decide (lo ≤ i ∧ i ≤ hi))) R
def C_is_between (cl : Cl) : Ct := CtOf (S_is_between cl)
/-- a list or a tuple of ints -/
def seqF (d : D) (ms : List Int) (F : LL) : Prop := (∃ q, d = .ref q ∧ F = [(q, intsO ms)]) ∨ (d = .tup (ms.map .int) ∧ F = [])
def S_require_keys (cl : Cl) : Sc := fun ds F R Φ => ∃ (d : D) (ms : List Int) (most : Int), ds = [d, .int most] ∧ seqF d ms F ∧ (ms.length : Int) ≤ most ∧ Φ .non (F ++ R)
def C_require_keys (cl : Cl) : Ct := CtOf (S_require_keys cl)
def S_require_bool (cl : Cl) : Sc := fun ds F R Φ => ∃ (x : Str) (b : Bool), ds = [.str x, .bl b] ∧ F = [] ∧ Φ .non R
def C_require_bool (cl : Cl) : Ct := CtOf (S_require_bool cl)
/-! placing -/
def leastGo : Nat → Nat → Nat → Nat
  | 0, m, o => m + o
  | f + 1, m, o => if 64 ≤ m then leastGo f (m / 2) (if o = 0 then m % 2 else o) else m + o
def leastN (m : Nat) : Nat := leastGo m m 0
def S_least_of (cl : Cl) : Sc := fun ds F R Φ => ∃ m : Nat, ds = [.int m] ∧ F = [] ∧ Φ (.int (leastN m)) R
def C_least_of (cl : Cl) : Ct := CtOf (S_least_of cl)
/-! runs -/
def turnN (row : List Nat) (s e : Nat) : List Nat := row.take s ++ ((row.drop s).take (e - s)).reverse ++ row.drop e
def turnE (row : List Nat) (p q : Nat) : List Nat := if 0 < q then turnN row (p - q - 1) p else row
def S_turn_about (cl : Cl) : Sc := fun ds F R Φ => ∃ (r : Addr) (row : List Nat) (i j : Nat), ds = [.ref r, .int i, .int j] ∧ F = [(r, rowO row)] ∧ (i ≤ j ∧ j ≤ row.length ∧ row.length ≤ 100000) ∧ Φ .non ([(r, rowO (turnN row i j))] ++ R)
def C_turn_about (cl : Cl) : Ct := CtOf (S_turn_about cl)
def S_turn_equal (cl : Cl) : Sc := fun ds F R Φ => ∃ (r : Addr) (row : List Nat) (p q : Nat), ds = [.ref r, .int p, .int q] ∧ F = [(r, rowO row)] ∧ ((0 < q → q + 1 ≤ p) ∧ p ≤ row.length ∧ row.length ≤ 100000) ∧ Φ .non ([(r, rowO (turnE row p q))] ++ R)
def C_turn_equal (cl : Cl) : Ct := CtOf (S_turn_equal cl)
def rising (ms : List Int) (row : List Nat) (e : Nat) : Nat → Nat → Log → Nat × Log
  | 0, p, l => (p, l)
  | f + 1, p, l => if p < e then
      if lessN ms (row.getD p 0) (row.getD (p - 1) 0) then (p, l ++ [(row.getD p 0, row.getD (p - 1) 0, true)])
      else rising ms row e f (p + 1) (l ++ [(row.getD p 0, row.getD (p - 1) 0, false)])
    else (p, l)
def S_rising_end (cl : Cl) : Sc := fun ds F R Φ => ∃ (r h mk la : Addr) (row : List Nat) (ms : List Int) (lg : Log) (p e : Nat), ds = [.ref r, .int p, .int e, .ref h] ∧ F = (r, rowO row) :: honF cl h mk la ms lg ∧
  (1 ≤ p ∧ e ≤ row.length ∧ Row ms row ∧ (rising ms row e (e - p) p lg).2.length ≤ 1000000) ∧
  Φ (.int (rising ms row e (e - p) p lg).1) ((r, rowO row) :: honF cl h mk la ms (rising ms row e (e - p) p lg).2 ++ R)
def C_rising_end (cl : Cl) : Ct := CtOf (S_rising_end cl)
def falling (ms : List Int) (e : Nat) : Nat → Nat → Nat → List Nat → Log → Nat × List Nat × Log
  | 0, p, q, row, l => (p, turnE row p q, l)
  | f + 1, p, q, row, l => if p < e then
      if lessN ms (row.getD p 0) (row.getD (p - 1) 0) then falling ms e f (p + 1) 0 (turnE row p q) (l ++ [(row.getD p 0, row.getD (p - 1) 0, true)])
      else if lessN ms (row.getD (p - 1) 0) (row.getD p 0) then (p, turnE row p q, (l ++ [(row.getD p 0, row.getD (p - 1) 0, false)]) ++ [(row.getD (p - 1) 0, row.getD p 0, true)])
      else falling ms e f (p + 1) (q + 1) row ((l ++ [(row.getD p 0, row.getD (p - 1) 0, false)]) ++ [(row.getD (p - 1) 0, row.getD p 0, false)])
    else (p, turnE row p q, l)
def S_falling_end (cl : Cl) : Sc := fun ds F R Φ => ∃ (r h mk la : Addr) (row : List Nat) (ms : List Int) (lg : Log) (p e : Nat), ds = [.ref r, .int p, .int e, .ref h] ∧ F = (r, rowO row) :: honF cl h mk la ms lg ∧
  (1 ≤ p ∧ p ≤ row.length ∧ e ≤ row.length ∧ row.length ≤ 100000 ∧ Row ms row ∧ (falling ms e (e - p) p 0 row lg).2.2.length ≤ 1000000) ∧
  Φ (.int (falling ms e (e - p) p 0 row lg).1) ((r, rowO (falling ms e (e - p) p 0 row lg).2.1) :: honF cl h mk la ms (falling ms e (e - p) p 0 row lg).2.2 ++ R)
def C_falling_end (cl : Cl) : Ct := CtOf (S_falling_end cl)
/-- what find_run does once it has seen where the row ends to rise -/
def runOn (ms : List Int) (e s p : Nat) (row : List Nat) (l : Log) : Nat × List Nat × Log :=
  ((rising ms (turnN (falling ms e (e - (p + 1)) (p + 1) 0 row l).2.1 s (falling ms e (e - (p + 1)) (p + 1) 0 row l).1) e (e - (falling ms e (e - (p + 1)) (p + 1) 0 row l).1) (falling ms e (e - (p + 1)) (p + 1) 0 row l).1 (falling ms e (e - (p + 1)) (p + 1) 0 row l).2.2).1 - s,
   turnN (falling ms e (e - (p + 1)) (p + 1) 0 row l).2.1 s (falling ms e (e - (p + 1)) (p + 1) 0 row l).1,
   (rising ms (turnN (falling ms e (e - (p + 1)) (p + 1) 0 row l).2.1 s (falling ms e (e - (p + 1)) (p + 1) 0 row l).1) e (e - (falling ms e (e - (p + 1)) (p + 1) 0 row l).1) (falling ms e (e - (p + 1)) (p + 1) 0 row l).1 (falling ms e (e - (p + 1)) (p + 1) 0 row l).2.2).2)
def runAt (ms : List Int) (e s p : Nat) (row : List Nat) (l : Log) : Nat × List Nat × Log :=
  if p = e then (p - s, row, l)
  else if 1 < p - s then
    if lessN ms (row.getD s 0) (row.getD (p - 1) 0) then (p - s, row, l ++ [(row.getD s 0, row.getD (p - 1) 0, true)])
    else runOn ms e s p (turnN row s p) (l ++ [(row.getD s 0, row.getD (p - 1) 0, false)])
  else runOn ms e s p row l
def findRun (ms : List Int) (row : List Nat) (s e : Nat) (l : Log) : Nat × List Nat × Log :=
  runAt ms e s (rising ms row e (e - (s + 1)) (s + 1) l).1 row (rising ms row e (e - (s + 1)) (s + 1) l).2
def S_find_run (cl : Cl) : Sc := fun ds F R Φ => ∃ (r h mk la : Addr) (row : List Nat) (ms : List Int) (lg : Log) (s e : Nat), ds = [.ref r, .int s, .int e, .ref h] ∧ F = (r, rowO row) :: honF cl h mk la ms lg ∧
  (s < e ∧ e ≤ row.length ∧ row.length ≤ 100000 ∧ Row ms row ∧ (findRun ms row s e lg).2.2.length ≤ 1000000) ∧
  Φ (.int (findRun ms row s e lg).1) ((r, rowO (findRun ms row s e lg).2.1) :: honF cl h mk la ms (findRun ms row s e lg).2.2 ++ R)
def C_find_run (cl : Cl) : Ct := CtOf (S_find_run cl)
/-! facts of the mirrors -/
theorem turnN_length {row : List Nat} {i j : Nat} (h1 : i ≤ j) (h2 : j ≤ row.length) : (turnN row i j).length = row.length := by
  unfold turnN
  simp only [List.length_append, List.length_take, List.length_reverse, List.length_drop]
  omega
theorem turnN_mem {row : List Nat} {i j x : Nat} (h : x ∈ turnN row i j) : x ∈ row := by
  unfold turnN at h
  rcases List.mem_append.mp h with h | h
  · rcases List.mem_append.mp h with h | h
    · exact List.mem_of_mem_take h
    · exact List.mem_of_mem_drop (List.mem_of_mem_take (List.mem_reverse.mp h))
  · exact List.mem_of_mem_drop h
theorem Row.turn {ms : List Int} {row : List Nat} (h : Row ms row) (i j : Nat) : Row ms (turnN row i j) := fun x hx => h x (turnN_mem hx)
theorem Row.turnE {ms : List Int} {row : List Nat} (h : Row ms row) (p q : Nat) : Row ms (turnE row p q) := by
  unfold DL.turnE
  split
  · exact h.turn _ _
  · exact h
theorem turnE_length {row : List Nat} {p q : Nat} (h1 : p ≤ row.length) : (turnE row p q).length = row.length := by
  unfold turnE
  split
  · exact turnN_length (by omega) h1
  · rfl
theorem Row.get {ms : List Int} {row : List Nat} (h : Row ms row) {p : Nat} (hp : p < row.length) : row.getD p 0 < ms.length := by
  have : row.getD p 0 = row[p] := by simp [List.getD, List.getElem?_eq_getElem hp]
  rw [this]
  exact h _ (List.getElem_mem hp)
theorem rising_grow (ms : List Int) (row : List Nat) (e : Nat) : ∀ f p l, l.length ≤ (rising ms row e f p l).2.length
  | 0, p, l => Nat.le_refl _
  | f + 1, p, l => by
    unfold rising
    split
    · split
      · simp
      · have := rising_grow ms row e f (p + 1) (l ++ [(row.getD p 0, row.getD (p - 1) 0, false)])
        rw [List.length_append] at this
        simp at this ⊢
        omega
    · exact Nat.le_refl _
theorem rising_at (ms : List Int) (row : List Nat) (e : Nat) : ∀ f p l, p ≤ (rising ms row e f p l).1 ∧ (p ≤ e → (rising ms row e f p l).1 ≤ e)
  | 0, p, l => ⟨Nat.le_refl _, fun h => h⟩
  | f + 1, p, l => by
    unfold rising
    split
    · split
      · exact ⟨Nat.le_refl _, fun h => h⟩
      · have := rising_at ms row e f (p + 1) (l ++ [(row.getD p 0, row.getD (p - 1) 0, false)])
        exact ⟨by omega, fun h => this.2 (by omega)⟩
    · exact ⟨Nat.le_refl _, fun h => h⟩
theorem falling_grow (ms : List Int) (e : Nat) : ∀ f p q row l, l.length ≤ (falling ms e f p q row l).2.2.length
  | 0, p, q, row, l => Nat.le_refl _
  | f + 1, p, q, row, l => by
    unfold falling
    split
    · split
      · have := falling_grow ms e f (p + 1) 0 (turnE row p q) (l ++ [(row.getD p 0, row.getD (p - 1) 0, true)])
        rw [List.length_append] at this
        simp at this ⊢
        omega
      · split
        · simp
        · have := falling_grow ms e f (p + 1) (q + 1) row ((l ++ [(row.getD p 0, row.getD (p - 1) 0, false)]) ++ [(row.getD (p - 1) 0, row.getD p 0, false)])
          rw [List.length_append, List.length_append] at this
          simp at this ⊢
          omega
    · exact Nat.le_refl _
theorem falling_at (ms : List Int) (e : Nat) : ∀ f p q row l, p ≤ (falling ms e f p q row l).1 ∧ (p ≤ e → (falling ms e f p q row l).1 ≤ e)
  | 0, p, q, row, l => ⟨Nat.le_refl _, fun h => h⟩
  | f + 1, p, q, row, l => by
    unfold falling
    split
    · split
      · have := falling_at ms e f (p + 1) 0 (turnE row p q) (l ++ [(row.getD p 0, row.getD (p - 1) 0, true)])
        exact ⟨by omega, fun h => this.2 (by omega)⟩
      · split
        · exact ⟨Nat.le_refl _, fun h => h⟩
        · have := falling_at ms e f (p + 1) (q + 1) row ((l ++ [(row.getD p 0, row.getD (p - 1) 0, false)]) ++ [(row.getD (p - 1) 0, row.getD p 0, false)])
          exact ⟨by omega, fun h => this.2 (by omega)⟩
    · exact ⟨Nat.le_refl _, fun h => h⟩
theorem falling_row (ms : List Int) (e : Nat) : ∀ f p q row l, p ≤ row.length → e ≤ row.length → (falling ms e f p q row l).2.1.length = row.length
  | 0, p, q, row, l, h, _ => turnE_length h
  | f + 1, p, q, row, l, h, he => by
    unfold falling
    split
    · split
      · rw [falling_row ms e f (p + 1) 0 _ _ (by rw [turnE_length h]; omega) (by rw [turnE_length h]; omega), turnE_length h]
      · split
        · exact turnE_length h
        · exact falling_row ms e f (p + 1) (q + 1) _ _ (by omega) he
    · exact turnE_length h
theorem Row.falling {ms : List Int} (e : Nat) : ∀ f p q row l, Row ms row → Row ms (falling ms e f p q row l).2.1
  | 0, p, q, row, l, h => h.turnE _ _
  | f + 1, p, q, row, l, h => by
    unfold DL.falling
    split
    · split
      · exact Row.falling e f _ _ _ _ (h.turnE _ _)
      · split
        · exact h.turnE _ _
        · exact Row.falling e f _ _ _ _ h
    · exact h.turnE _ _
end DL

namespace DL
open PySem PySem.Spec PyProof.Rows L2

def t_Honest___init__ (cl : Cl) : TS' :=
  tAsg' (tTup' (tCons' (tCB' fList (tCons' (tVar' 1) (tNil'))) (tCons' (tLst' (tNil')) (tNil')))) (gTup' 2 (gCons' (gFld' cl.Honest 0 (tVar' 0)) (gCons' (gFld' cl.Honest 1 (tVar' 0)) (gNil'))))
-- self keys
def t_Honest_less (cl : Cl) : TS' :=
  tSeq' (tAsg' (tBin' fLt (tBin' fIx (tFld' cl.Honest 0 (tVar' 0)) (tVar' 1)) (tBin' fIx (tFld' cl.Honest 0 (tVar' 0)) (tVar' 2))) (gName' 3))
  (tSeq' (tDrop' (tLM' fAppend (tFld' cl.Honest 1 (tVar' 0)) (tCons' (tTup' (tCons' (tTup' (tCons' (tVar' 1) (tCons' (tVar' 2) (tNil')))) (tCons' (tVar' 3) (tNil')))) (tNil'))))
  (tRet' (tVar' 3)))
-- self one other is_less
def t_is_integer (cl : Cl) : TS' :=
  tRet' (tAndV' (tIsi' .it (tVar' 0)) (tNotV' (tIsi' .bl (tVar' 0))))
-- value
def t_is_between (cl : Cl) : TS' :=
  tRet' (tAndV' (tCall' (C_is_integer cl) [] (tCons' (tVar' 0) (tNil'))) (tChain' fLe fLe (tVar' 1) (tVar' 0) (tVar' 2)))
-- value low high
def t_require_keys (cl : Cl) : TS' :=
  tSeq' (tIfS' (tOr' (tNot' (tTru' (tIsi2' .ls .tp (tVar' 0)))) (tTst' (tBin' fGt (tCB' fLen (tCons' (tVar' 0) (tNil'))) (tVar' 1)))) (tNever') (tNext'))
  (tFor' (iEnumA' (tCons' (tVar' 0) (tNil'))) (gTup' 2 (gCons' (gName' 2) (gCons' (gName' 3) (gNil')))) (tIfS' (tNot' (tTru' (tCall' (C_is_integer cl) [] (tCons' (tVar' 3) (tNil'))))) (tNever') (tNext')))
-- keys most index key
def t_require_bool (cl : Cl) : TS' :=
  tIfS' (tNot' (tTru' (tIsi' .bl (tVar' 1)))) (tNever') (tNext')
-- name value
def t_least_of (cl : Cl) : TS' :=
  tSeq' (tAsg' (tC' (.int 0)) (gName' 1))
  (tSeq' (tWhile' (tTst' (tBin' fGe (tVar' 0) (tC' (.int 64)))) (tSeq' (tAsg' (tOrV' (tVar' 1) (tBin' fBand (tVar' 0) (tC' (.int 1)))) (gName' 1))
  (tAsg' (tBin' fShr (tVar' 0) (tC' (.int 1))) (gName' 0))))
  (tRet' (tBin' fAdd (tVar' 0) (tVar' 1))))
-- many is_odd
def t_turn_about (cl : Cl) : TS' :=
  tAsg' (tRevL' (tSl' (tVar' 0) (tPart' (tVar' 1)) (tPart' (tVar' 2)))) (gSlc' (tVar' 0) (tVar' 1) (tVar' 2))
-- row start end
def t_turn_equal (cl : Cl) : TS' :=
  tIfS' (tTst' (tBin' fGt (tVar' 2) (tC' (.int 0)))) (tDrop' (tCall' (C_turn_about cl) [] (tCons' (tVar' 0) (tCons' (tBin' fSub (tBin' fSub (tVar' 1) (tVar' 2)) (tC' (.int 1))) (tCons' (tVar' 1) (tNil')))))) (tNext')
-- row place equal
def t_rising_end (cl : Cl) : TS' :=
  tSeq' (tWhile' (tAnd' (tTst' (tBin' fLt (tVar' 1) (tVar' 2))) (tNot' (tTru' (tMeth' cl.Honest (C_Honest_less cl) [] (tVar' 3) (tCons' (tBin' fIx (tVar' 0) (tVar' 1)) (tCons' (tBin' fIx (tVar' 0) (tBin' fSub (tVar' 1) (tC' (.int 1)))) (tNil'))))))) (tAug' 1 (tC' (.int 1)) (fI fun i j => .int (i + j))))
  (tRet' (tVar' 1))
-- row place end asker
def t_falling_end (cl : Cl) : TS' :=
  tSeq' (tAsg' (tC' (.int 0)) (gName' 4))
  (tSeq' (tWhile' (tTst' (tBin' fLt (tVar' 1) (tVar' 2))) (tSeq' (tIfS' (tTru' (tMeth' cl.Honest (C_Honest_less cl) [] (tVar' 3) (tCons' (tBin' fIx (tVar' 0) (tVar' 1)) (tCons' (tBin' fIx (tVar' 0) (tBin' fSub (tVar' 1) (tC' (.int 1)))) (tNil'))))) (tSeq' (tDrop' (tCall' (C_turn_equal cl) [] (tCons' (tVar' 0) (tCons' (tVar' 1) (tCons' (tVar' 4) (tNil'))))))
  (tAsg' (tC' (.int 0)) (gName' 4))) (tIfS' (tTru' (tMeth' cl.Honest (C_Honest_less cl) [] (tVar' 3) (tCons' (tBin' fIx (tVar' 0) (tBin' fSub (tVar' 1) (tC' (.int 1)))) (tCons' (tBin' fIx (tVar' 0) (tVar' 1)) (tNil'))))) (tBreak') (tAug' 4 (tC' (.int 1)) (fI fun i j => .int (i + j)))))
  (tAug' 1 (tC' (.int 1)) (fI fun i j => .int (i + j)))))
  (tSeq' (tDrop' (tCall' (C_turn_equal cl) [] (tCons' (tVar' 0) (tCons' (tVar' 1) (tCons' (tVar' 4) (tNil'))))))
  (tRet' (tVar' 1))))
-- row place end asker equal
def t_find_run (cl : Cl) : TS' :=
  tSeq' (tAsg' (tCall' (C_rising_end cl) [] (tCons' (tVar' 0) (tCons' (tBin' fAdd (tVar' 1) (tC' (.int 1))) (tCons' (tVar' 2) (tCons' (tVar' 3) (tNil')))))) (gName' 4))
  (tSeq' (tIfS' (tTst' (tBin' fEq (tVar' 4) (tVar' 2))) (tRet' (tBin' fSub (tVar' 4) (tVar' 1))) (tNext'))
  (tSeq' (tIfS' (tTst' (tBin' fGt (tBin' fSub (tVar' 4) (tVar' 1)) (tC' (.int 1)))) (tSeq' (tIfS' (tTru' (tMeth' cl.Honest (C_Honest_less cl) [] (tVar' 3) (tCons' (tBin' fIx (tVar' 0) (tVar' 1)) (tCons' (tBin' fIx (tVar' 0) (tBin' fSub (tVar' 4) (tC' (.int 1)))) (tNil'))))) (tRet' (tBin' fSub (tVar' 4) (tVar' 1))) (tNext'))
  (tDrop' (tCall' (C_turn_about cl) [] (tCons' (tVar' 0) (tCons' (tVar' 1) (tCons' (tVar' 4) (tNil'))))))) (tNext'))
  (tSeq' (tAsg' (tCall' (C_falling_end cl) [] (tCons' (tVar' 0) (tCons' (tBin' fAdd (tVar' 4) (tC' (.int 1))) (tCons' (tVar' 2) (tCons' (tVar' 3) (tNil')))))) (gName' 4))
  (tSeq' (tDrop' (tCall' (C_turn_about cl) [] (tCons' (tVar' 0) (tCons' (tVar' 1) (tCons' (tVar' 4) (tNil'))))))
  (tRet' (tBin' fSub (tCall' (C_rising_end cl) [] (tCons' (tVar' 0) (tCons' (tVar' 4) (tCons' (tVar' 2) (tCons' (tVar' 3) (tNil')))))) (tVar' 1)))))))
-- row start end asker place
end DL

namespace DL
open PySem PySem.Spec PyProof.Rows L2
local macro_rules | `(tactic| walk_at "has") => `(tactic| first | exact Has.here | (apply Has.there; walk_at "has"))
local macro_rules | `(tactic| walk_at "hasl") => `(tactic| first | (refine Or.inl ?_; walk_at "has") | (refine Or.inr ?_; walk_at "has"))
local macro_rules | `(tactic| walk_at "sel") => `(tactic| first | exact Sel.here | (apply Sel.there; walk_at "sel"))
local macro_rules | `(tactic| walk_at "chg") => `(tactic| first | exact Chg.here | (apply Chg.there; walk_at "chg"))
local macro_rules | `(tactic| walk_at "pull") => `(tactic| first | exact Pull.nil | (apply Pull.cons; (walk_at "sel"); exact rfl; walk_at "pull"))
local macro_rules | `(tactic| walk_at "cov") => `(tactic| first | exact Cov.refl | (apply Cov.take; (walk_at "sel"); (first | exact rfl | assumption); walk_at "cov") | (apply Cov.take; (walk_at "sel"); rotate_left; walk_at "cov") | (refine Cov.drop ?_; walk_at "cov"))
local macro_rules | `(tactic| walk_at "sub") => `(tactic| first | exact Sub.nil | (refine Sub.same (by first | rfl | assumption) ?_; walk_at "sub") | (refine Sub.any ?_; walk_at "sub") | (refine Sub.same ?_ ?_; rotate_left; walk_at "sub"))
local macro_rules | `(tactic| walk_at "side") => `(tactic| first | assumption | (with_reducible rfl) | omega | (refine mulOk_r ?_ ?_ <;> first | omega | decide) | (refine mulOk_l ?_ ?_ <;> first | omega | decide) | (refine divOk_of ?_ ?_ <;> first | omega | decide) | (refine ⟨?_, ?_⟩ <;> walk_at "side") | rfl | (simp <;> omega) | decide)
local macro_rules | `(tactic| walk_at "kn") => `(tactic| first | assumption | decide | rfl)
local macro_rules | `(tactic| walk_at "br") => `(tactic| first | (with_reducible first | refine Br.t ?_ | refine Br.f ?_) | ((with_reducible refine Br.dec_t ?_ ?_); focus walk_at "kn") | ((with_reducible refine Br.dec_f ?_ ?_); focus walk_at "kn") | ((with_reducible refine Br.ndec_t ?_ ?_); focus walk_at "kn") | ((with_reducible refine Br.ndec_f ?_ ?_); focus walk_at "kn") | (with_reducible first | (refine Br.dec ?_ ?_ <;> intro _) | (refine Br.ndec ?_ ?_ <;> intro _)) | refine Br.t ?_ | refine Br.f ?_ | (with_reducible refine Br.mk ?_ ?_ <;> intro _))
local macro_rules | `(tactic| walk_at "st") => `(tactic| ((try (conv => whnf)); first
  | walk_at "br"
  | with_reducible (intro _)
  | (refine ⟨_, (by walk_at "has" : Has _ _ _), ?_⟩)
  | (refine ⟨_, (by walk_at "hasl" : HasL _ _ _), ?_⟩)
  | (refine ⟨_, _, (by walk_at "chg" : Chg _ _ _ _ _), ?_⟩)
  | (refine ⟨_, _, _, (by walk_at "chg" : Chg _ _ _ _ _), (by first | rfl | assumption : ixN _ _ = some _), ?_⟩)
  | (refine ⟨_, _, (by walk_at "sel" : Sel _ _ _ _), ?_⟩)
  | (refine ⟨_, _, _, (by walk_at "has" : Has _ _ _), (by assumption), ?_⟩)
  | (refine ⟨_, (by first | rfl | assumption : atI _ _ = some _), ?_⟩)
  | (refine And.intro (by walk_at "side") ?_)))
local macro_rules | `(tactic| walk_at "st2") => `(tactic| first | walk_at "st" | ((try (conv => whnf)); with_reducible refine And.intro ?_ ?_; rotate_left))
local macro_rules | `(tactic| walk_at "go") => `(tactic| first | ((try (conv => whnf)); walk_at "br" <;> walk_at "go") | (walk_at "st"; walk_at "go") | (conv => whnf) | skip)
/-! calls -/
theorem call_less {cl : Cl} {L R : LL} {Φ : DK} {h mk la : Addr} {ms : List Int} {lg : Log} {a b : Int} (i j : Nat) (p : Pull L (honF cl h mk la ms lg) R) (ei : a = i) (ej : b = j) (h1 : i < ms.length) (h2 : j < ms.length) (h3 : lg.length ≤ 1000000)
    (k : Φ (.bl (lessN ms i j)) (honF cl h mk la ms (lg ++ [(i, j, lessN ms i j)]) ++ R)) : CtOf (S_less cl) [.ref h, .int a, .int b] L Φ := by
  subst ei ej
  rw [← honG_nil] at p k
  exact ⟨_, _, p, h, mk, la, ms, [], lg, i, j, rfl, rfl, ⟨h1, h2, h3⟩, k⟩
theorem call_turn_about {cl : Cl} {L R : LL} {Φ : DK} {r : Addr} {row : List Nat} {a b : Int} (i j : Nat) (p : Pull L [(r, rowO row)] R) (ei : a = i) (ej : b = j) (h1 : i ≤ j) (h2 : j ≤ row.length) (h3 : row.length ≤ 100000)
    (k : Φ .non ([(r, rowO (turnN row i j))] ++ R)) : CtOf (S_turn_about cl) [.ref r, .int a, .int b] L Φ := by
  subst ei ej
  exact ⟨_, _, p, r, row, i, j, rfl, rfl, ⟨h1, h2, h3⟩, k⟩
theorem call_turn_equal {cl : Cl} {L R : LL} {Φ : DK} {r : Addr} {row : List Nat} {a b : Int} (i j : Nat) (p : Pull L [(r, rowO row)] R) (ei : a = i) (ej : b = j) (h1 : 0 < j → j + 1 ≤ i) (h2 : i ≤ row.length) (h3 : row.length ≤ 100000)
    (k : Φ .non ([(r, rowO (turnE row i j))] ++ R)) : CtOf (S_turn_equal cl) [.ref r, .int a, .int b] L Φ := by
  subst ei ej
  exact ⟨_, _, p, r, row, i, j, rfl, rfl, ⟨h1, h2, h3⟩, k⟩
/-! readings -/
theorem rd_Honest_init (cl : Cl) (ds : List D) (F R : LL) (Φ : DK) (h : S_Honest_init cl ds F R Φ) : t_Honest___init__ cl (endD Φ) (startD 2 ds) (F ++ R) := by
  obtain ⟨a, d, xs, Fq, rfl, rfl, hd, h⟩ := h
  rcases hd with ⟨q, rfl, rfl⟩ | ⟨rfl, rfl⟩
  · walk_at "go"
    rename_i mk la
    refine Ret.mk _ ?_ (h mk la)
    walk_at "cov"
  · walk_at "go"
    rename_i mk la
    refine Ret.mk _ ?_ (h mk la)
    walk_at "cov"
theorem atI_intx {row : List Int} {x : List D} {i : Int} (j : Nat) (e : i = j) (h : j < row.length) : atI (row.map D.int ++ x) i = some (.int (row.getD j 0)) := by
  refine atI_of j e ?_
  rw [List.getElem?_append_left (by simpa using h), List.getElem?_map, List.getElem?_eq_getElem h]
  simp [List.getD, List.getElem?_eq_getElem h]
theorem rd_less (cl : Cl) (ds : List D) (F R : LL) (Φ : DK) (h : S_less cl ds F R Φ) : t_Honest_less cl (endD Φ) (startD 4 ds) (F ++ R) := by
  obtain ⟨a, mk, la, ms, x, lg, i, j, rfl, rfl, ⟨h1, h2, h3⟩, h⟩ := h
  walk_at "go"
  refine ⟨_, atI_intx i rfl h1, ?_⟩
  walk_at "go"
  refine ⟨_, atI_intx j rfl h2, ?_⟩
  walk_at "go"
  refine Ret.mk _ ?_ h
  walk_at "cov"
  simp [lgD, lessN, keyN]
theorem rd_is_integer (cl : Cl) (ds : List D) (F R : LL) (Φ : DK) (h : S_is_integer cl ds F R Φ) : t_is_integer cl (endD Φ) (startD 1 ds) (F ++ R) := by
  obtain ⟨i, rfl, rfl, h⟩ := h
  walk_at "go"
  exact Ret.mk _ .refl h
theorem rd_is_between (cl : Cl) (ds : List D) (F R : LL) (Φ : DK) (h : S_is_between cl ds F R Φ) : t_is_between cl (endD Φ) (startD 3 ds) (F ++ R) := by
  obtain ⟨i, lo, hi, rfl, rfl, h⟩ := h
  walk_at "go"
  refine CtOf.mk [] _ .nil ⟨_, rfl, rfl, ?_⟩
  walk_at "go"
  · refine Ret.mk _ .refl ?_
    simpa [*] using h
  · refine Ret.mk _ .refl ?_
    have e : decide (lo ≤ i ∧ i ≤ hi) = false := by simp [*]
    rw [e] at h
    exact h
theorem rd_require_keys (cl : Cl) (ds : List D) (F R : LL) (Φ : DK) (h : S_require_keys cl ds F R Φ) : t_require_keys cl (endD Φ) (startD 4 ds) (F ++ R) := by
  obtain ⟨d, ms, most, rfl, hd, hm, h⟩ := h
  rcases hd with ⟨q, rfl, rfl⟩ | ⟨rfl, rfl⟩
  · walk_at "go"
    · rename_i z
      simp at z
      omega
    refine ForI.inv (α := Unit) (fun _ _ => [some (.ref q), some (.int most), none, none]) (fun _ _ => [(q, intsO ms)] ++ R) (fun _ _ => True) () (by walk_at "sub") .refl trivial ?_ ?_
    · intro i x d hd _
      obtain ⟨e, he, rfl⟩ := enumD_get hd
      rw [List.getElem?_map] at he
      obtain ⟨k, _, rfl⟩ := Option.map_eq_some_iff.mp he
      refine ⟨by walk_at "hasl", ?_⟩
      walk_at "go"
      refine CtOf.mk [] _ .nil ⟨_, rfl, rfl, ?_⟩
      walk_at "go"
      exact Nx1.mk () (by walk_at "sub") .refl trivial
    · intro x _
      refine ⟨by walk_at "hasl", ?_⟩
      exact Ret.mk _ .refl h
  · walk_at "go"
    · rename_i z
      simp at z
      omega
    refine ForI.inv (α := Unit) (fun _ _ => [some (.tup (ms.map .int)), some (.int most), none, none]) (fun _ _ => [] ++ R) (fun _ _ => True) () (by walk_at "sub") .refl trivial ?_ ?_
    · intro i x d hd _
      obtain ⟨e, he, rfl⟩ := enumD_get hd
      rw [List.getElem?_map] at he
      obtain ⟨k, _, rfl⟩ := Option.map_eq_some_iff.mp he
      refine ⟨trivial, ?_⟩
      walk_at "go"
      refine CtOf.mk [] _ .nil ⟨_, rfl, rfl, ?_⟩
      walk_at "go"
      exact Nx1.mk () (by walk_at "sub") .refl trivial
    · intro x _
      refine ⟨trivial, ?_⟩
      exact Ret.mk _ .refl h
theorem rd_require_bool (cl : Cl) (ds : List D) (F R : LL) (Φ : DK) (h : S_require_bool cl ds F R Φ) : t_require_bool cl (endD Φ) (startD 2 ds) (F ++ R) := by
  obtain ⟨x, b, rfl, rfl, h⟩ := h
  walk_at "go"
  exact Ret.mk _ .refl h
theorem rd_turn_about (cl : Cl) (ds : List D) (F R : LL) (Φ : DK) (h : S_turn_about cl ds F R Φ) : t_turn_about cl (endD Φ) (startD 3 ds) (F ++ R) := by
  obtain ⟨r, row, i, j, rfl, rfl, ⟨h1, h2, h3⟩, h⟩ := h
  walk_at "go"
  have e : cutD (row.map dn) (some (i : Int)) (some (j : Int)) = ((row.map dn).drop i).take (j - i) := cutD_nat i j rfl rfl h1 (by simpa using h2)
  rw [e]
  refine ⟨?_, ?_⟩
  · simp
    omega
  refine Ret.mk _ ?_ h
  walk_at "cov"
  simp [turnN]
theorem rd_turn_equal (cl : Cl) (ds : List D) (F R : LL) (Φ : DK) (h : S_turn_equal cl ds F R Φ) : t_turn_equal cl (endD Φ) (startD 3 ds) (F ++ R) := by
  obtain ⟨r, row, p, q, rfl, rfl, ⟨h1, h2, h3⟩, h⟩ := h
  walk_at "go"
  · refine call_turn_about (p - q - 1) p (by walk_at "pull") (by omega) rfl (by omega) h2 h3 ?_
    walk_at "go"
    refine Ret.mk _ .refl ?_
    unfold turnE at h
    rw [if_pos (by omega)] at h
    exact h
  · refine Ret.mk _ .refl ?_
    unfold turnE at h
    rw [if_neg (by omega)] at h
    exact h
theorem bitAnd_one (m : Nat) : Builtin.bitAnd (m : Int) 1 = ((m % 2 : Nat) : Int) := by
  rw [bitAnd_pp (by omega) (by decide), Int.toNat_natCast]
  show ((m &&& 1 : Nat) : Int) = _
  rw [Nat.and_one_is_mod]
theorem rd_least_of (cl : Cl) (ds : List D) (F R : LL) (Φ : DK) (h : S_least_of cl ds F R Φ) : t_least_of cl (endD Φ) (startD 2 ds) (F ++ R) := by
  obtain ⟨m0, rfl, rfl, h⟩ := h
  walk_at "go"
  refine WhileI.inv (α := Nat × Nat × Nat) (fun x => [some (.int x.2.1), some (.int x.2.2)]) (fun _ => R) (fun x => leastGo x.1 x.2.1 x.2.2 = leastN m0 ∧ x.2.1 ≤ x.1) (fun x => x.2.1) (m0, m0, 0) (by walk_at "sub") .refl ⟨rfl, Nat.le_refl _⟩ ?_
  rintro ⟨f, m, o⟩ ⟨h1, h2⟩
  dsimp only at h1 h2 ⊢
  have hf : 64 ≤ m → ∃ f', f = f' + 1 := fun z => ⟨f - 1, by omega⟩
  walk_at "go"
  · rename_i g1 g2
    obtain ⟨f', rfl⟩ := hf (by omega)
    unfold leastGo at h1
    have g3 : o ≠ 0 := by simpa using g2
    rw [if_pos (by omega), if_neg g3] at h1
    refine Nxt.mk (f', m / 2, o) ?_ .refl ⟨h1, by dsimp only; omega⟩ (by show m / 2 < m; omega)
    walk_at "sub"
  · rename_i g1 g2
    obtain ⟨f', rfl⟩ := hf (by omega)
    unfold leastGo at h1
    have g3 : o = 0 := by simpa using g2
    rw [if_pos (by omega), if_pos g3] at h1
    refine Nxt.mk (f', m / 2, m % 2) ?_ .refl ⟨h1, by dsimp only; omega⟩ (by show m / 2 < m; omega)
    walk_at "sub"
    simpa using bitAnd_one m
  · rename_i g1
    refine Ret.mk _ .refl ?_
    rw [← h1] at h
    cases f with
    | zero =>
      have : m = 0 := by omega
      unfold leastGo at h
      simpa using h
    | succ f =>
      unfold leastGo at h
      rw [if_neg (by omega)] at h
      simpa using h
theorem rd_rising_end (cl : Cl) (ds : List D) (F R : LL) (Φ : DK) (h : S_rising_end cl ds F R Φ) : t_rising_end cl (endD Φ) (startD 4 ds) (F ++ R) := by
  obtain ⟨r, a, mk, la, row, ms, lg0, p0, e, rfl, rfl, ⟨h1, h2, h3, h4⟩, h⟩ := h
  walk_at "go"
  generalize he : rising ms row e (e - p0) p0 lg0 = res at h h4
  refine WhileI.inv (α := Nat × Log) (fun x => [some (.ref r), some (.int x.1), some (.int e), some (.ref a)]) (fun x => (r, rowO row) :: honF cl a mk la ms x.2 ++ R) (fun x => 1 ≤ x.1 ∧ rising ms row e (e - x.1) x.1 x.2 = res) (fun x => e - x.1) (p0, lg0) (by walk_at "sub") .refl ⟨h1, he⟩ ?_
  rintro ⟨p, lg⟩ ⟨g1, g2⟩
  dsimp only at g1 g2 ⊢
  have gl := rising_grow ms row e (e - p) p lg
  rw [g2] at gl
  walk_at "go"
  · rename_i hp
    refine ⟨_, atI_dn p rfl (by omega), ?_⟩
    walk_at "go"
    refine ⟨_, atI_dn (p - 1) (by omega) (by omega), ?_⟩
    walk_at "go"
    have ef : e - p = (e - (p + 1)) + 1 := by omega
    rw [ef] at g2
    unfold rising at g2
    rw [if_pos (by omega)] at g2
    refine call_less _ _ (by walk_at "pull") rfl rfl (h3.get (by omega)) (h3.get (by omega)) (by omega) ?_
    cases hl : lessN ms (row.getD p 0) (row.getD (p - 1) 0) with
    | true =>
      rw [hl, if_pos rfl] at g2
      walk_at "go"
      rw [← g2] at h
      refine Ret.mk _ ?_ h
      walk_at "cov"
    | false =>
      rw [hl, if_neg Bool.false_ne_true] at g2
      walk_at "go"
      refine Nxt.mk (p + 1, _) (by walk_at "sub") ?_ ⟨by omega, g2⟩ (by show e - (p + 1) < e - p; omega)
      walk_at "cov"
  · rename_i hp
    rw [← g2, show e - p = 0 by omega] at h
    refine Ret.mk _ ?_ h
    walk_at "cov"
end DL

/-! heaps: trees of questions; who answers: by keys, or by a row of answers -/
namespace DL
open PySem PySem.Spec PyProof.Rows L2
/-- what is asked (the row as it stands then), and what is then done -/
inductive Tr (α : Type) where
  | ret (a : α)
  | ask (s : List Nat) (i j : Nat) (k : Bool → Tr α)
/-- who answers -/
inductive AK where
  | hon (ms : List Int) (x : List D)
  | told (as : List Bool)
namespace AK
def ans (k : AK) (n i j : Nat) : Option Bool := match k with
  | .hon ms _ => some (lessN ms i j)
  | .told as => as[n]?
def ok (k : AK) (i : Nat) : Prop := match k with
  | .hon ms _ => i < ms.length
  | .told _ => True
def okR (k : AK) (row : List Nat) : Prop := ∀ x ∈ row, k.ok x
def cls (k : AK) (cl : Cl) : Addr := match k with
  | .hon _ _ => cl.Honest
  | .told _ => cl.Told
def fs (k : AK) (mk la : Addr) : List (Nat × D) := match k with
  | .hon _ _ => [(0, .ref mk), (1, .ref la)]
  | .told _ => [(2, .ref mk), (1, .ref la)]
def lo (k : AK) : LO := match k with
  | .hon ms x => .lst (ms.map .int ++ x)
  | .told as => .lst (as.map .bl)
def live (k : AK) (cl : Cl) : Prop := match k with
  | .hon _ _ => True
  | .told _ => cl.Told ≠ 0 ∧ XT.paused ∈ cl.xts
/-- its log is no longer than its row -/
def fits (k : AK) (n : Nat) : Prop := match k with
  | .hon _ _ => True
  | .told as => n ≤ as.length
def lv (k : AK) (cl : Cl) (n : Nat) : Prop := k.live cl ∧ k.fits n
theorem fits_ans {k : AK} {n i j : Nat} {b : Bool} (e : k.ans n i j = some b) : k.fits (n + 1) := by
  cases k with
  | hon ms x => trivial
  | told as => exact (List.getElem?_eq_some_iff.mp e).1
theorem fits_snoc {k : AK} {lg : List (Nat × Nat × Bool)} {q : Nat × Nat × Bool} {i j : Nat} {b : Bool} (e : k.ans lg.length i j = some b) : k.fits (lg ++ [q]).length := by
  rw [List.length_append]
  exact fits_ans e
theorem okR.get {k : AK} {row : List Nat} (h : k.okR row) {p : Nat} (hp : p < row.length) : k.ok (row.getD p 0) := by
  have : row.getD p 0 = row[p] := by simp [List.getD, List.getElem?_eq_getElem hp]
  rw [this]
  exact h _ (List.getElem_mem hp)
theorem okR.set {k : AK} {row : List Nat} (h : k.okR row) {i x : Nat} (hx : k.ok x) : k.okR (row.set i x) := fun y hy => by
  rcases List.mem_or_eq_of_mem_set hy with hy | hy
  · exact h y hy
  · subst hy; exact hx
end AK
/-- an asker where it stands -/
def askF (cl : Cl) (k : AK) (h mk la : Addr) (lg : Log) : LL := [(h, .ins (k.cls cl) (k.fs mk la)), (mk, k.lo), (la, .lst (lg.map lgD))]
theorem honG_ask (cl : Cl) (h mk la : Addr) (ms : List Int) (x : List D) (lg : Log) : honG cl h mk la ms x lg = askF cl (.hon ms x) h mk la lg := rfl
/-- what comes of it: an end, or a question that waits -/
inductive Rs (α : Type) where
  | ok (a : α) (l : Log)
  | no (s : List Nat) (i j : Nat) (l : Log)
namespace Tr
variable {α β : Type}
def bind : Tr α → (α → Tr β) → Tr β
  | .ret a, f => f a
  | .ask s i j k, f => .ask s i j fun b => (k b).bind f
/-- the most questions -/
def depth : Tr α → Nat
  | .ret _ => 0
  | .ask _ _ _ k => max (k true).depth (k false).depth + 1
def ex (k : AK) : Tr α → Log → Rs α
  | .ret a, l => .ok a l
  | .ask s i j c, l => match k.ans l.length i j with
    | some b => (c b).ex k (l ++ [(i, j, b)])
    | none => .no s i j l
theorem ex_ask (k : AK) (s : List Nat) (i j : Nat) (c : Bool → Tr α) (l : Log) : (Tr.ask s i j c).ex k l = match k.ans l.length i j with
    | some b => (c b).ex k (l ++ [(i, j, b)])
    | none => .no s i j l := by
  conv => lhs; unfold ex
theorem ex_bind (k : AK) (f : α → Tr β) : ∀ (t : Tr α) (l : Log), (t.bind f).ex k l = match t.ex k l with
    | .ok a l' => (f a).ex k l'
    | .no s i j l' => .no s i j l'
  | .ret a, l => rfl
  | .ask s i j c, l => by
    rw [show (Tr.ask s i j c).bind f = .ask s i j (fun b => (c b).bind f) from rfl, ex_ask, ex_ask]
    cases k.ans l.length i j with
    | none => rfl
    | some b => exact ex_bind k f (c b) _
theorem depth_pos {s : List Nat} {i j : Nat} {k : Bool → Tr α} {b : Bool} {n m : Nat} (h : n + (Tr.ask s i j k).depth ≤ m) : n + 1 + (k b).depth ≤ m := by
  unfold depth at h
  cases b
  · omega
  · omega
theorem depth_bind_le {f : α → Tr β} {n : Nat} (h : ∀ a, (f a).depth ≤ n) : ∀ t : Tr α, (t.bind f).depth ≤ t.depth + n
  | .ret a => by simpa [bind, depth] using h a
  | .ask s i j k => by
    have a := depth_bind_le h (k true)
    have b := depth_bind_le h (k false)
    show max ((k true).bind f).depth ((k false).bind f).depth + 1 ≤ max (k true).depth (k false).depth + 1 + n
    omega
theorem depth_bind_ret {f : α → β} (t : Tr α) : (t.bind fun a => .ret (f a)).depth = t.depth := by
  induction t with
  | ret a => rfl
  | ask s i j k ih =>
    show max ((k true).bind _).depth ((k false).bind _).depth + 1 = max (k true).depth (k false).depth + 1
    rw [ih true, ih false]
theorem bind_assoc {γ : Type} (f : α → Tr β) (g : β → Tr γ) : ∀ t : Tr α, (t.bind f).bind g = t.bind fun a => (f a).bind g
  | .ret a => rfl
  | .ask s i j k => by
    show Tr.ask s i j (fun b => ((k b).bind f).bind g) = Tr.ask s i j fun b => (k b).bind fun a => (f a).bind g
    congr 1
    funext b
    exact bind_assoc f g (k b)
/-- the log of what comes -/
theorem ex_log (k : AK) : ∀ (t : Tr α) (l : Log), (match t.ex k l with
    | .ok _ l' => l'
    | .no _ _ _ l' => l').length ≤ l.length + t.depth
  | .ret a, l => Nat.le_refl _
  | .ask s i j c, l => by
    unfold ex
    cases k.ans l.length i j with
    | none => exact Nat.le_add_right _ _
    | some b =>
      have := ex_log k (c b) (l ++ [(i, j, b)])
      rw [List.length_append] at this
      have h2 : (c b).depth ≤ max (c true).depth (c false).depth := by cases b <;> omega
      unfold depth
      simp only [List.length_cons, List.length_nil] at this ⊢
      omega
/-- the honest answers, from the first question -/
def truth (ms : List Int) : Tr α → Log
  | .ret _ => []
  | .ask _ i j k => (i, j, lessN ms i j) :: (k (lessN ms i j)).truth ms
def fin (ms : List Int) : Tr α → α
  | .ret a => a
  | .ask _ i j k => (k (lessN ms i j)).fin ms
theorem ex_hon (ms : List Int) (x : List D) : ∀ (t : Tr α) (l : Log), t.ex (.hon ms x) l = .ok (t.fin ms) (l ++ t.truth ms)
  | .ret a, l => by simp [ex, fin, truth]
  | .ask s i j k, l => by
    unfold ex fin truth
    show (k (lessN ms i j)).ex (.hon ms x) _ = _
    rw [ex_hon ms x (k _)]
    simp
theorem truth_depth (ms : List Int) : ∀ t : Tr α, (t.truth ms).length ≤ t.depth
  | .ret _ => Nat.le_refl _
  | .ask s i j k => by
    unfold truth depth
    have := truth_depth ms (k (lessN ms i j))
    simp only [List.length_cons]
    cases h : lessN ms i j
    · rw [h] at this; omega
    · rw [h] at this; omega
theorem fin_bind (ms : List Int) (f : α → Tr β) : ∀ t : Tr α, (t.bind f).fin ms = (f (t.fin ms)).fin ms
  | .ret a => rfl
  | .ask s i j k => fin_bind ms f (k _)
theorem truth_bind (ms : List Int) (f : α → Tr β) : ∀ t : Tr α, (t.bind f).truth ms = t.truth ms ++ (f (t.fin ms)).truth ms
  | .ret a => rfl
  | .ask s i j k => by
    show (i, j, lessN ms i j) :: ((k (lessN ms i j)).bind f).truth ms = ((i, j, lessN ms i j) :: (k (lessN ms i j)).truth ms) ++ (f ((k (lessN ms i j)).fin ms)).truth ms
    rw [truth_bind ms f (k _)]
    rfl
/-- by the first n honest answers -/
theorem ex_told (ms : List Int) : ∀ (t : Tr α) (l : Log) (n : Nat), n ≤ (t.truth ms).length →
    (n = (t.truth ms).length ∧ t.ex (.told (l.map (·.2.2) ++ ((t.truth ms).take n).map (·.2.2))) l = .ok (t.fin ms) (l ++ t.truth ms)) ∨
    ∃ q st, (t.truth ms)[n]? = some q ∧ t.ex (.told (l.map (·.2.2) ++ ((t.truth ms).take n).map (·.2.2))) l = .no st q.1 q.2.1 (l ++ (t.truth ms).take n)
  | .ret a, l, n, h => by
    left
    have : n = 0 := by
      simp [truth] at h
      exact h
    subst this
    exact ⟨rfl, by simp [ex, fin, truth]⟩
  | .ask s i j k, l, 0, h => by
    right
    exact ⟨(i, j, lessN ms i j), s, rfl, by simp [ex, AK.ans]⟩
  | .ask s i j k, l, n + 1, h => by
    have et : (Tr.ask s i j k).truth ms = (i, j, lessN ms i j) :: (k (lessN ms i j)).truth ms := rfl
    rw [et] at h ⊢
    have ih := ex_told ms (k (lessN ms i j)) (l ++ [(i, j, lessN ms i j)]) n (by simpa using h)
    have e : l.map (·.2.2) ++ ((((i, j, lessN ms i j) :: (k (lessN ms i j)).truth ms).take (n + 1)).map (·.2.2)) = (l ++ [(i, j, lessN ms i j)]).map (·.2.2) ++ (((k (lessN ms i j)).truth ms).take n).map (·.2.2) := by simp
    rw [e]
    have e2 : (Tr.ask s i j k).ex (.told ((l ++ [(i, j, lessN ms i j)]).map (·.2.2) ++ (((k (lessN ms i j)).truth ms).take n).map (·.2.2))) l = (k (lessN ms i j)).ex (.told ((l ++ [(i, j, lessN ms i j)]).map (·.2.2) ++ (((k (lessN ms i j)).truth ms).take n).map (·.2.2))) (l ++ [(i, j, lessN ms i j)]) := by
      have e3 : AK.ans (.told ((l ++ [(i, j, lessN ms i j)]).map (·.2.2) ++ (((k (lessN ms i j)).truth ms).take n).map (·.2.2))) l.length i j = some (lessN ms i j) := by
        show (_ : List Bool)[_]? = _
        rw [List.getElem?_append_left (by simp), List.map_append, List.getElem?_append_right (by simp)]
        simp
      conv => lhs; unfold ex
      rw [e3]
    rw [e2]
    have ef : (Tr.ask s i j k).fin ms = (k (lessN ms i j)).fin ms := rfl
    rw [ef]
    rcases ih with ⟨h1, h2⟩ | ⟨q, st, h1, h2⟩
    · left
      refine ⟨by simp [h1], ?_⟩
      rw [h2]
      simp
    · right
      refine ⟨q, st, by simpa using h1, ?_⟩
      rw [h2]
      simp
end Tr
/-! the deeds -/
def swapN (row : List Nat) (i j : Nat) : List Nat := (row.set i (row.getD j 0)).set j (row.getD i 0)
theorem swapN_length {row : List Nat} {i j : Nat} : (swapN row i j).length = row.length := by simp [swapN]
theorem AK.okR.swap {k : AK} {row : List Nat} (h : k.okR row) {i j : Nat} (hi : i < row.length) (hj : j < row.length) : k.okR (swapN row i j) := by
  unfold swapN
  exact (h.set (h.get hj)).set (h.get hi)
def riseT : Nat → List Nat → Nat → Nat → Tr (List Nat)
  | 0, row, _, _ => .ret row
  | f + 1, row, p, low => if low < p then .ask row (row.getD p 0) (row.getD ((p - 1) / 2) 0) fun b => if b then riseT f (swapN row p ((p - 1) / 2)) ((p - 1) / 2) low else .ret row
    else .ret row
def sinkT : Nat → List Nat → Nat → Nat → Tr (List Nat)
  | 0, row, p, low => riseT row.length row p low
  | f + 1, row, p, low => if 2 * p + 1 < row.length then
      (if 2 * p + 2 < row.length then .ask row (row.getD (2 * p + 1) 0) (row.getD (2 * p + 2) 0) fun b => sinkT f (swapN row p (if b then 2 * p + 1 else 2 * p + 2)) (if b then 2 * p + 1 else 2 * p + 2) low
       else sinkT f (swapN row p (2 * p + 1)) (2 * p + 1) low)
    else riseT row.length row p low
def sinkFrom (row : List Nat) (p : Nat) : Tr (List Nat) := sinkT row.length row p p
def makeT : Nat → List Nat → Tr (List Nat)
  | 0, row => .ret row
  | n + 1, row => (sinkFrom row n).bind (makeT n)
inductive Deed where
  | heapify | push | pop | replace | pushpop
deriving DecidableEq
def Deed.str : Deed → Str
  | .heapify => "heapify"
  | .push => "push"
  | .pop => "pop"
  | .replace => "replace"
  | .pushpop => "pushpop"
def putT (row : List Nat) (item : Nat) : Tr (List Nat) := sinkFrom (row.set 0 item) 0
def takeT (row : List Nat) : Tr (List Nat × Nat) :=
  if row.length = 1 then .ret ([], row.getD 0 0) else (putT row.dropLast (row.getD (row.length - 1) 0)).bind fun r => .ret (r, row.getD 0 0)
def deedT : Deed → List Nat → Tr (List Nat × Option Nat)
  | .heapify, row => (makeT (row.length / 2) row).bind fun r => .ret (r, none)
  | .push, row => (riseT (row.length + 1) (row ++ [row.length]) row.length 0).bind fun r => .ret (r, none)
  | .pop, row => (takeT row).bind fun r => .ret (r.1, some r.2)
  | .replace, row => (putT row row.length).bind fun r => .ret (r, some (row.getD 0 0))
  | .pushpop, row => if row = [] then .ret (row, some row.length) else .ask row (row.getD 0 0) row.length fun b => if b then (putT row row.length).bind fun r => .ret (r, some (row.getD 0 0)) else .ret (row, some row.length)
def optD : Option Nat → D
  | none => .non
  | some n => .int n
end DL

/-! asker.less: an Honest's or a Told's -/
namespace DL
open PySem PySem.Spec PyProof.Rows L2
/-- Told.less -/
def S_Told_less (cl : Cl) : ScX := fun ds F R Φ Ψ => ∃ (h mk la : Addr) (as : List Bool) (lg : Log) (i j : Nat), ds = [.ref h, .int i, .int j] ∧ F = askF cl (.told as) h mk la lg ∧ (lg.length ≤ 1000000 ∧ lg.length ≤ as.length) ∧
  match as[lg.length]? with
  | some b => Φ (.bl b) (askF cl (.told as) h mk la (lg ++ [(i, j, b)]) ++ R)
  | none => ∀ p, Ψ .paused p ((p, .xd [(3, .tup [.int i, .int j])]) :: (askF cl (.told as) h mk la lg ++ R))
def C_Told_less (cl : Cl) : CtX := CtOfX (S_Told_less cl)
/-- the answer of an asker of kind k -/
inductive AskAt (cl : Cl) (W : XW) (k : AK) (ds : List D) (L : LL) (Φ : DK) (σ : Sl) : Prop
  | hon (ms : List Int) (x : List D) : k = .hon ms x → C_Honest_less cl ds L Φ → AskAt cl W k ds L Φ σ
  | told (as : List Bool) : k = .told as → C_Told_less cl ds L Φ (fun C d L3 => W.psi C d σ L3) → AskAt cl W k ds L Φ σ
def tAsk' (cl : Cl) (W : XW) (to : TE') (t : TA') : TE' := fun σ L Φ => to σ L fun d L1 => match d with
  | .ref a => ∃ k mk la, Has L1 a (.ins (AK.cls k cl) (AK.fs k mk la)) ∧ AK.live k cl ∧ t σ L1 fun ds L2 => AskAt cl W k (.ref a :: ds) L2 Φ σ
  | _ => False
theorem ask_at {cl : Cl} {W : XW} {L R : LL} {Φ : DK} {σ : Sl} {h mk la : Addr} {k : AK} {lg : Log} {a b : Int} (i j : Nat) (p : Pull L (askF cl k h mk la lg) R) (ei : a = i) (ej : b = j) (h1 : k.ok i) (h2 : k.ok j) (h3 : lg.length ≤ 1000000) (hf : k.fits lg.length)
    (yes : ∀ c, k.ans lg.length i j = some c → Φ (.bl c) (askF cl k h mk la (lg ++ [(i, j, c)]) ++ R))
    (no : k.ans lg.length i j = none → ∀ p, W.psi .paused p σ ((p, .xd [(3, .tup [.int i, .int j])]) :: (askF cl k h mk la lg ++ R))) : AskAt cl W k [.ref h, .int a, .int b] L Φ σ := by
  subst ei ej
  cases k with
  | hon ms x => exact .hon ms x rfl ⟨_, _, p, h, mk, la, ms, x, lg, i, j, rfl, rfl, ⟨h1, h2, h3⟩, yes _ rfl⟩
  | told as =>
    refine .told as rfl ⟨_, _, p, h, mk, la, as, lg, i, j, rfl, rfl, ⟨h3, hf⟩, ?_⟩
    cases e : as[lg.length]? with
    | some c => exact yes c e
    | none => exact no e
section
variable {X : Cx} {pos apos : Pos} {e o : Expr} {es : List Expr} {te : TE'} {t : TA'} {k1 k2 : Nat} {W : XW} {cl : Cl}
theorem pe_ask' {m : Str} {pl : Sem Bool} (F1 : Mtd X.prog X.w X.K X.mg X.base cl.Honest m [] (C_Honest_less cl) k1) (F2 : cl.Told ≠ 0 → MtdX X.prog X.w X.K X.mg X.base cl.xa cl.Told m [] (C_Told_less cl) k2) (tk : Takes X (wishV X.K cl.xa W)) (hr1 : Room k1 X.A) (hr2 : Room k2 X.A) (he : PE' X o te) (ha : PA' X (e :: es) t)
    (hst : starEach (e :: es) X.env = (false, eval e X.env) :: starEach es X.env := by rfl) (hpl : (backTo pos (starEach es X.env)).any (·.1) = false := by rfl)
    (ht : eval (.Call (.Attribute o m apos) (e :: es) [] pos) X.env = (do
      let ov ← eval o X.env
      standAt apos.atName
      let (f, first) ← holding [ov] (getMethod ov m pl)
      callWith pos f first (backTo pos (starEach (e :: es) X.env)) (backToKw pos (keywordEach [] X.env))) := by rfl) : PE' X (.Call (.Attribute o m apos) (e :: es) [] pos) (tAsk' cl W te t) := by
  refine ⟨fun pins s σ H Q I ⟨σd, L, Φ, hs, hl, hw, k⟩ => ?_⟩
  refine PySem.W.methodCall_KW (pl := pl) (thn (he.run pins s σ H _ I ⟨σd, L, _, hs, hl, hw, fun d L1 v H1 h1 t1 r1 l1 => (⟨d, L1, h1, t1, r1, l1⟩ : ∃ d L1, (match d with
    | .ref a => ∃ k mk la, Has L1 a (.ins (AK.cls k cl) (AK.fs k mk la)) ∧ AK.live k cl ∧ t σd L1 fun ds L2 => AskAt cl W k (.ref a :: ds) L2 Φ σd
    | _ => False) ∧ TK X.K H H1 ∧ DR X.K H1 d v ∧ HL X.K H1 L1)⟩) fun u s1 ⟨x, H1, I1, rx, d, L1, h1, t1, r1, l1⟩ => ?_) ht
  cases r1 with
  | @ref a =>
    obtain rfl : u = Value.ref a := rx
    obtain ⟨kk, mk, la, hh, lv, q⟩ := (show ∃ k mk la, _ from h1)
    obtain ⟨dx, gs, e1, r⟩ := l1.has hh
    have q2 : liftA X.K t σ H1 (fun vs H2 => ∃ ds L2, TK X.K H1 H2 ∧ DRs X.K H2 ds vs ∧ HL X.K H2 L2 ∧ AskAt cl W kk (.ref a :: ds) L2 Φ σd) := ⟨σd, L1, _, hs.mono t1, l1, q, fun ds L2 vs H2 h2 t2 r2 l2 => ⟨ds, L2, t2, r2, l2, h2⟩⟩
    cases kk with
    | hon ms x =>
      obtain ⟨cl1, nf1, f1, fd1, ps1, ds1, dvs1, hm1, hb1, hv1, hdd1, G1⟩ := F1
      refine getmeth_ok I1 e1 cl1 hm1 (r.none_of nf1) ?_
      refine PySem.W.callWith_K (first := [.ref a]) (h₀ := X.base) I.ok.mod.kin hm1.kp (thn (ha.run pos pins s1 σ H1 _ I1 q2) fun us s2 ⟨vs, H2, I2, r, ds, L2, t2, r2, l2, h2⟩ => ⟨I2.kIn, ?_⟩) hst hpl
      have h : C_Honest_less cl (.ref a :: ds) L2 Φ := by
        cases h2 with
        | hon _ _ _ h => exact h
        | told _ e _ => cases e
      exact run_fnD (E := fun _ _ _ => False) (us := .ref a :: us) (vs := .ref a :: vs) G1 hr1 hb1 hv1 (fun _ _ _ _ _ _ h => h.elim) I2 (.cons rfl r) ⟨_, L2, Φ, .cons .ref (r2.append (hdd1 H2)), l2, by rw [List.append_nil]; exact h, k.mono (t1.trans t2)⟩
    | told as =>
      obtain ⟨cl2, nf2, f2, fd2, ps2, ds2, dvs2, hm2, hb2, hv2, hdd2, G2⟩ := F2 lv.1
      refine getmeth_ok I1 e1 cl2 hm2 (r.none_of nf2) ?_
      refine PySem.W.callWith_K (first := [.ref a]) (h₀ := X.base) I.ok.mod.kin hm2.kp (thn (ha.run pos pins s1 σ H1 _ I1 q2) fun us s2 ⟨vs, H2, I2, r, ds, L2, t2, r2, l2, h2⟩ => ⟨I2.kIn, ?_⟩) hst hpl
      have h : C_Told_less cl (.ref a :: ds) L2 Φ (fun C d L3 => W.psi C d σd L3) := by
        cases h2 with
        | hon _ _ e _ => cases e
        | told _ _ h => exact h
      exact run_fnD (us := .ref a :: us) (vs := .ref a :: vs) G2 hr2 hb2 hv2 (pass_w tk σ) I2 (.cons rfl r) ⟨_, L2, Φ, _, .cons .ref (r2.append (hdd2 H2)), l2, by rw [List.append_nil]; exact h, k.mono (t1.trans t2), wish_at hs (t1.trans t2)⟩
  | _ => exact (show False from h1).elim
end
end DL

/-! heaps: contracts -/
namespace DL
open PySem PySem.Spec PyProof.Rows L2
/-- what comes of a tree: an end, or Paused -/
def outX {α : Type} (cl : Cl) (k : AK) (r h mk la : Addr) (R : LL) (res : Rs α) (Φ : α → LL → Prop) (Ψ : XC) : Prop := match res with
  | .ok a l => Φ a (askF cl k h mk la l ++ R)
  | .no s i j l => ∀ p, Ψ .paused p ((p, .xd [(3, .tup [.int i, .int j])]) :: (r, rowO s) :: (askF cl k h mk la l ++ R))
def S_swap_places (cl : Cl) : Sc := fun ds F R Φ => ∃ (r : Addr) (row : List Nat) (i j : Nat), ds = [.ref r, .int i, .int j] ∧ F = [(r, rowO row)] ∧ (i < row.length ∧ j < row.length) ∧ Φ .non ([(r, rowO (swapN row i j))] ++ R)
def C_swap_places (cl : Cl) : Ct := CtOf (S_swap_places cl)
def S_rise_from (cl : Cl) : ScX := fun ds F R Φ Ψ => ∃ (r h mk la : Addr) (p low f : Nat) (k : AK) (row : List Nat) (lg : Log), ds = [.ref r, .int p, .int low, .ref h] ∧ F = (r, rowO row) :: askF cl k h mk la lg ∧
  (p < row.length ∧ p ≤ f ∧ k.okR row ∧ k.lv cl lg.length ∧ lg.length + (riseT f row p low).depth ≤ 1000000) ∧ outX cl k r h mk la R ((riseT f row p low).ex k lg) (fun row' L => Φ .non ((r, rowO row') :: L)) Ψ
def C_rise_from (cl : Cl) : CtX := CtOfX (S_rise_from cl)
def S_sink_from (cl : Cl) : ScX := fun ds F R Φ Ψ => ∃ (r h mk la : Addr) (p : Nat) (k : AK) (row : List Nat) (lg : Log), ds = [.ref r, .int p, .ref h] ∧ F = (r, rowO row) :: askF cl k h mk la lg ∧
  (p < row.length ∧ k.okR row ∧ k.lv cl lg.length ∧ lg.length + (sinkFrom row p).depth ≤ 1000000) ∧ outX cl k r h mk la R ((sinkFrom row p).ex k lg) (fun row' L => Φ .non ((r, rowO row') :: L)) Ψ
def C_sink_from (cl : Cl) : CtX := CtOfX (S_sink_from cl)
def S_make_heap (cl : Cl) : ScX := fun ds F R Φ Ψ => ∃ (r h mk la : Addr) (k : AK) (row : List Nat) (lg : Log), ds = [.ref r, .ref h] ∧ F = (r, rowO row) :: askF cl k h mk la lg ∧
  (row.length ≤ 100000 ∧ k.okR row ∧ k.lv cl lg.length ∧ lg.length + (makeT (row.length / 2) row).depth ≤ 1000000) ∧ outX cl k r h mk la R ((makeT (row.length / 2) row).ex k lg) (fun row' L => Φ .non ((r, rowO row') :: L)) Ψ
def C_make_heap (cl : Cl) : CtX := CtOfX (S_make_heap cl)
def S_put_first (cl : Cl) : ScX := fun ds F R Φ Ψ => ∃ (r h mk la : Addr) (item : Nat) (k : AK) (row : List Nat) (lg : Log), ds = [.ref r, .int item, .ref h] ∧ F = (r, rowO row) :: askF cl k h mk la lg ∧
  (0 < row.length ∧ k.ok item ∧ k.okR row ∧ k.lv cl lg.length ∧ lg.length + (putT row item).depth ≤ 1000000) ∧ outX cl k r h mk la R ((putT row item).ex k lg) (fun row' L => Φ (.int (row.getD 0 0 : Nat)) ((r, rowO row') :: L)) Ψ
def C_put_first (cl : Cl) : CtX := CtOfX (S_put_first cl)
def S_take_first (cl : Cl) : ScX := fun ds F R Φ Ψ => ∃ (r h mk la : Addr) (k : AK) (row : List Nat) (lg : Log), ds = [.ref r, .ref h] ∧ F = (r, rowO row) :: askF cl k h mk la lg ∧
  (0 < row.length ∧ k.okR row ∧ k.lv cl lg.length ∧ lg.length + (takeT row).depth ≤ 1000000) ∧ outX cl k r h mk la R ((takeT row).ex k lg) (fun q L => Φ (.int q.2) ((r, rowO q.1) :: L)) Ψ
def C_take_first (cl : Cl) : CtX := CtOfX (S_take_first cl)
/-- what a deed needs: its list has items where one is taken; the new item has a mark -/
def DeedOk (w : Deed) (k : AK) (row : List Nat) : Prop := (w = .pop ∨ w = .replace → 0 < row.length) ∧ (w ≠ .heapify → w ≠ .pop → k.ok row.length) ∧ row.length ≤ 100000 ∧ k.okR row
def S_do_deed (cl : Cl) : ScX := fun ds F R Φ Ψ => ∃ (w : Deed) (r h mk la : Addr) (k : AK) (row : List Nat) (lg : Log), ds = [.str w.str, .ref r, .ref h] ∧ F = (r, rowO row) :: askF cl k h mk la lg ∧
  (DeedOk w k row ∧ k.lv cl lg.length ∧ lg.length + (deedT w row).depth ≤ 1000000) ∧ outX cl k r h mk la R ((deedT w row).ex k lg) (fun q L => Φ (optD q.2) ((r, rowO q.1) :: L)) Ψ
def C_do_deed (cl : Cl) : CtX := CtOfX (S_do_deed cl)
end DL

namespace DL
open PySem PySem.Spec PyProof.Rows L2

def t_swap_places (cl : Cl) : TS' :=
  tAsg' (tTup' (tCons' (tBin' fIx (tVar' 0) (tVar' 2)) (tCons' (tBin' fIx (tVar' 0) (tVar' 1)) (tNil')))) (gTup' 2 (gCons' (gSub' (tVar' 0) (tVar' 1)) (gCons' (gSub' (tVar' 0) (tVar' 2)) (gNil'))))
-- row one other
def t_rise_from (cl : Cl) (W : XW) : TS' :=
  tWhile' (tTst' (tBin' fGt (tVar' 1) (tVar' 2))) (tSeq' (tAsg' (tBin' fFdiv (tBin' fSub (tVar' 1) (tC' (.int 1))) (tC' (.int 2))) (gName' 4))
  (tSeq' (tIfS' (tNot' (tTru' (tAsk' cl W (tVar' 3) (tCons' (tBin' fIx (tVar' 0) (tVar' 1)) (tCons' (tBin' fIx (tVar' 0) (tVar' 4)) (tNil')))))) (tRetN') (tNext'))
  (tSeq' (tDrop' (tCall' (C_swap_places cl) [] (tCons' (tVar' 0) (tCons' (tVar' 1) (tCons' (tVar' 4) (tNil'))))))
  (tAsg' (tVar' 4) (gName' 1)))))
-- row place low asker parent
def t_sink_from (cl : Cl) (W : XW) : TS' :=
  tSeq' (tPar' 3 4 (tCons' (tVar' 1) (tCons' (tCB' fLen (tCons' (tVar' 0) (tNil'))) (tNil'))))
  (tSeq' (tWhile' (tTst' (tBin' fLt (tBin' fAdd (tBin' fMul (tC' (.int 2)) (tVar' 1)) (tC' (.int 1))) (tVar' 4))) (tSeq' (tAsg' (tBin' fAdd (tBin' fMul (tC' (.int 2)) (tVar' 1)) (tC' (.int 1))) (gName' 5))
  (tSeq' (tIfS' (tAnd' (tTst' (tBin' fLt (tBin' fAdd (tVar' 5) (tC' (.int 1))) (tVar' 4))) (tNot' (tTru' (tAsk' cl W (tVar' 2) (tCons' (tBin' fIx (tVar' 0) (tVar' 5)) (tCons' (tBin' fIx (tVar' 0) (tBin' fAdd (tVar' 5) (tC' (.int 1)))) (tNil'))))))) (tAug' 5 (tC' (.int 1)) (fI fun i j => .int (i + j))) (tNext'))
  (tSeq' (tDrop' (tCall' (C_swap_places cl) [] (tCons' (tVar' 0) (tCons' (tVar' 1) (tCons' (tVar' 5) (tNil'))))))
  (tAsg' (tVar' 5) (gName' 1))))))
  (tDrop' (tCallX' W (C_rise_from cl) [] (tCons' (tVar' 0) (tCons' (tVar' 1) (tCons' (tVar' 3) (tCons' (tVar' 2) (tNil'))))))))
-- row place asker low many child
def t_make_heap (cl : Cl) (W : XW) : TS' :=
  tFor' (iRngDn' (tCons' (tBin' fSub (tBin' fFdiv (tCB' fLen (tCons' (tVar' 0) (tNil'))) (tC' (.int 2))) (tC' (.int 1))) (tCons' (tNeg' (tC' (.int 1))) (tCons' (tNeg' (tC' (.int 1))) (tNil'))))) (gName' 2) (tDrop' (tCallX' W (C_sink_from cl) [] (tCons' (tVar' 0) (tCons' (tVar' 2) (tCons' (tVar' 1) (tNil'))))))
-- row asker place
def t_take_first (cl : Cl) (W : XW) : TS' :=
  tSeq' (tAsg' (tLM0' fPop (tVar' 0)) (gName' 2))
  (tSeq' (tIfS' (tTst' (tBin' fEq (tVar' 0) (tLst' (tNil')))) (tRet' (tVar' 2)) (tNext'))
  (tSeq' (tAsg' (tTup' (tCons' (tBin' fIx (tVar' 0) (tC' (.int 0))) (tCons' (tVar' 2) (tNil')))) (gTup' 2 (gCons' (gName' 3) (gCons' (gSub' (tVar' 0) (tC' (.int 0))) (gNil')))))
  (tSeq' (tDrop' (tCallX' W (C_sink_from cl) [] (tCons' (tVar' 0) (tCons' (tC' (.int 0)) (tCons' (tVar' 1) (tNil'))))))
  (tRet' (tVar' 3)))))
-- row asker last first
def t_put_first (cl : Cl) (W : XW) : TS' :=
  tSeq' (tAsg' (tTup' (tCons' (tBin' fIx (tVar' 0) (tC' (.int 0))) (tCons' (tVar' 1) (tNil')))) (gTup' 2 (gCons' (gName' 3) (gCons' (gSub' (tVar' 0) (tC' (.int 0))) (gNil')))))
  (tSeq' (tDrop' (tCallX' W (C_sink_from cl) [] (tCons' (tVar' 0) (tCons' (tC' (.int 0)) (tCons' (tVar' 2) (tNil'))))))
  (tRet' (tVar' 3)))
-- row item asker first
def t_do_deed (cl : Cl) (W : XW) : TS' :=
  tSeq' (tAsg' (tCB' fLen (tCons' (tVar' 1) (tNil'))) (gName' 3))
  (tSeq' (tIfS' (tTst' (tBin' fEq (tVar' 0) (tC' (.str "heapify")))) (tDrop' (tCallX' W (C_make_heap cl) [] (tCons' (tVar' 1) (tCons' (tVar' 2) (tNil'))))) (tIfS' (tTst' (tBin' fEq (tVar' 0) (tC' (.str "push")))) (tSeq' (tDrop' (tLM' fAppend (tVar' 1) (tCons' (tVar' 3) (tNil'))))
  (tDrop' (tCallX' W (C_rise_from cl) [] (tCons' (tVar' 1) (tCons' (tVar' 3) (tCons' (tC' (.int 0)) (tCons' (tVar' 2) (tNil')))))))) (tIfS' (tTst' (tBin' fEq (tVar' 0) (tC' (.str "pop")))) (tRet' (tCallX' W (C_take_first cl) [] (tCons' (tVar' 1) (tCons' (tVar' 2) (tNil'))))) (tIfS' (tTst' (tBin' fEq (tVar' 0) (tC' (.str "replace")))) (tRet' (tCallX' W (C_put_first cl) [] (tCons' (tVar' 1) (tCons' (tVar' 3) (tCons' (tVar' 2) (tNil')))))) (tIfS' (tOr' (tTst' (tBin' fEq (tVar' 1) (tLst' (tNil')))) (tNot' (tTru' (tAsk' cl W (tVar' 2) (tCons' (tBin' fIx (tVar' 1) (tC' (.int 0))) (tCons' (tVar' 3) (tNil'))))))) (tRet' (tVar' 3)) (tRet' (tCallX' W (C_put_first cl) [] (tCons' (tVar' 1) (tCons' (tVar' 3) (tCons' (tVar' 2) (tNil')))))))))))
  (tRet' (tC' .non)))
-- deed row asker many
end DL

namespace DL
open PySem PySem.Spec PyProof.Rows L2
local macro_rules | `(tactic| walk_at "has") => `(tactic| first | exact Has.here | (apply Has.there; walk_at "has"))
local macro_rules | `(tactic| walk_at "hasl") => `(tactic| first | (refine Or.inl ?_; walk_at "has") | (refine Or.inr ?_; walk_at "has"))
local macro_rules | `(tactic| walk_at "sel") => `(tactic| first | exact Sel.here | (apply Sel.there; walk_at "sel"))
local macro_rules | `(tactic| walk_at "chg") => `(tactic| first | exact Chg.here | (apply Chg.there; walk_at "chg"))
local macro_rules | `(tactic| walk_at "pull") => `(tactic| first | exact Pull.nil | (apply Pull.cons; (walk_at "sel"); exact rfl; walk_at "pull"))
local macro_rules | `(tactic| walk_at "cov") => `(tactic| first | exact Cov.refl | (apply Cov.take; (walk_at "sel"); (first | exact rfl | assumption); walk_at "cov") | (apply Cov.take; (walk_at "sel"); rotate_left; walk_at "cov") | (refine Cov.drop ?_; walk_at "cov"))
local macro_rules | `(tactic| walk_at "sub") => `(tactic| first | exact Sub.nil | (refine Sub.same (by first | rfl | assumption) ?_; walk_at "sub") | (refine Sub.any ?_; walk_at "sub") | (refine Sub.same ?_ ?_; rotate_left; walk_at "sub"))
local macro_rules | `(tactic| walk_at "side") => `(tactic| first | assumption | (with_reducible rfl) | omega | (refine mulOk_r ?_ ?_ <;> first | omega | decide) | (refine mulOk_l ?_ ?_ <;> first | omega | decide) | (refine divOk_of ?_ ?_ <;> first | omega | decide) | (refine ⟨?_, ?_⟩ <;> walk_at "side") | rfl | (simp <;> omega) | decide)
local macro_rules | `(tactic| walk_at "kn") => `(tactic| first | assumption | decide | rfl)
local macro_rules | `(tactic| walk_at "br") => `(tactic| first | (with_reducible first | refine Br.t ?_ | refine Br.f ?_) | ((with_reducible refine Br.dec_t ?_ ?_); focus walk_at "kn") | ((with_reducible refine Br.dec_f ?_ ?_); focus walk_at "kn") | ((with_reducible refine Br.ndec_t ?_ ?_); focus walk_at "kn") | ((with_reducible refine Br.ndec_f ?_ ?_); focus walk_at "kn") | (with_reducible first | (refine Br.dec ?_ ?_ <;> intro _) | (refine Br.ndec ?_ ?_ <;> intro _)) | refine Br.t ?_ | refine Br.f ?_ | (with_reducible refine Br.mk ?_ ?_ <;> intro _))
local macro_rules | `(tactic| walk_at "st") => `(tactic| ((try (conv => whnf)); first
  | walk_at "br"
  | with_reducible (intro _)
  | (refine ⟨_, (by walk_at "has" : Has _ _ _), ?_⟩)
  | (refine ⟨_, (by walk_at "hasl" : HasL _ _ _), ?_⟩)
  | (refine ⟨_, _, (by walk_at "chg" : Chg _ _ _ _ _), ?_⟩)
  | (refine ⟨_, _, _, (by walk_at "chg" : Chg _ _ _ _ _), (by first | rfl | assumption : ixN _ _ = some _), ?_⟩)
  | (refine ⟨_, _, (by walk_at "sel" : Sel _ _ _ _), ?_⟩)
  | (refine ⟨_, _, _, (by walk_at "has" : Has _ _ _), (by assumption), ?_⟩)
  | (refine ⟨_, (by first | rfl | assumption : atI _ _ = some _), ?_⟩)
  | (refine And.intro (by walk_at "side") ?_)))
local macro_rules | `(tactic| walk_at "st2") => `(tactic| first | walk_at "st" | ((try (conv => whnf)); with_reducible refine And.intro ?_ ?_; rotate_left))
local macro_rules | `(tactic| walk_at "go") => `(tactic| first | ((try (conv => whnf)); walk_at "br" <;> walk_at "go") | (walk_at "st"; walk_at "go") | (conv => whnf) | skip)
theorem call_swap {cl : Cl} {L R : LL} {Φ : DK} {r : Addr} {row : List Nat} {a b : Int} (i j : Nat) (p : Pull L [(r, rowO row)] R) (ei : a = i) (ej : b = j) (h1 : i < row.length) (h2 : j < row.length)
    (k : Φ .non ([(r, rowO (swapN row i j))] ++ R)) : CtOf (S_swap_places cl) [.ref r, .int a, .int b] L Φ := by
  subst ei ej
  exact ⟨_, _, p, r, row, i, j, rfl, rfl, ⟨h1, h2⟩, k⟩
theorem rd_swap_places (cl : Cl) (ds : List D) (F R : LL) (Φ : DK) (h : S_swap_places cl ds F R Φ) : t_swap_places cl (endD Φ) (startD 3 ds) (F ++ R) := by
  obtain ⟨r, row, i, j, rfl, rfl, ⟨h1, h2⟩, h⟩ := h
  walk_at "go"
  refine ⟨_, atI_dn j rfl h2, ?_⟩
  walk_at "go"
  refine ⟨_, atI_dn i rfl h1, ?_⟩
  walk_at "go"
  refine ⟨_, _, i, by walk_at "chg", ixN_of i rfl (by simpa using h1), ?_⟩
  walk_at "go"
  refine ⟨_, _, j, by walk_at "chg", ixN_of j rfl (by simpa using h2), ?_⟩
  walk_at "go"
  refine Ret.mk _ ?_ h
  walk_at "cov"
  simp [swapN, dn, List.map_set]
theorem rd_rise_from (cl : Cl) (ds : List D) (F R : LL) (Φ : DK) (Ψ : XC) (g : Addr) (P : Hp → Prop) (h : S_rise_from cl ds F R Φ Ψ) : t_rise_from cl (defW Ψ g P) (endD Φ) (startD 5 ds) (F ++ (g, .gh P) :: R) := by
  obtain ⟨r, a, mk, la, p0, low, f0, k, row0, lg0, rfl, rfl, ⟨h1, h1', h3, ⟨hv, hf⟩, h4⟩, h⟩ := h
  walk_at "go"
  generalize he : (riseT f0 row0 p0 low).ex k lg0 = res at h
  refine WhileI.inv (α := Nat × List Nat × Nat × Log) (fun x => [some (.ref r), some (.int x.2.2.1), some (.int low), some (.ref a), none]) (fun x => (r, rowO x.2.1) :: askF cl k a mk la x.2.2.2 ++ (g, .gh P) :: R)
    (fun x => x.2.2.1 < x.2.1.length ∧ x.2.2.1 ≤ x.1 ∧ k.okR x.2.1 ∧ x.2.2.2.length + (riseT x.1 x.2.1 x.2.2.1 low).depth ≤ 1000000 ∧ (riseT x.1 x.2.1 x.2.2.1 low).ex k x.2.2.2 = res ∧ k.fits x.2.2.2.length) (fun x => x.2.2.1) (f0, row0, p0, lg0) (by walk_at "sub") .refl ⟨h1, h1', h3, h4, he, hf⟩ ?_
  rintro ⟨f, row, p, lg⟩ ⟨g1, g2, g3, g4, g5, gf⟩
  dsimp only at g1 g2 g3 g4 g5 gf ⊢
  walk_at "go"
  · rename_i hp
    obtain ⟨f', rfl⟩ : ∃ f', f = f' + 1 := ⟨f - 1, by omega⟩
    unfold riseT at g4 g5
    rw [if_pos (by omega)] at g4 g5
    rw [Tr.ex_ask] at g5
    refine ⟨_, atI_dn p rfl g1, ?_⟩
    walk_at "go"
    refine ⟨_, atI_dn ((p - 1) / 2) (by omega) (by omega), ?_⟩
    walk_at "go"
    refine ask_at _ _ (by walk_at "pull") rfl rfl (g3.get g1) (g3.get (by omega)) (by omega) gf ?_ ?_
    · intro b hb
      rw [hb] at g5
      have g6 := Tr.depth_pos (b := b) g4
      cases b with
      | true =>
        simp only [if_true] at g5 g6
        walk_at "go"
        refine call_swap p ((p - 1) / 2) (by walk_at "pull") rfl (by omega) g1 (by omega) ?_
        walk_at "go"
        refine Nxt.mk (f', swapN row p ((p - 1) / 2), (p - 1) / 2, lg ++ [(row.getD p 0, row.getD ((p - 1) / 2) 0, true)]) ?_ ?_ ⟨by dsimp only; rw [swapN_length]; omega, by dsimp only; omega, g3.swap g1 (by omega), by dsimp only; rw [List.length_append]; exact g6, g5, AK.fits_snoc hb⟩ (by dsimp only; omega)
        · walk_at "sub"
          simp
          omega
        · walk_at "cov"
      | false =>
        walk_at "go"
        have e1 : Rs.ok row (lg ++ [(row.getD p 0, row.getD ((p - 1) / 2) 0, false)]) = res := g5
        subst e1
        refine Ret.mk _ ?_ h
        walk_at "cov"
    · intro hb q
      rw [hb] at g5
      subst g5
      refine RaiseTo.mk _ ?_ (h q)
      walk_at "cov"
  · rename_i hp
    have e : riseT f row p low = .ret row := by
      cases f with
      | zero => rfl
      | succ f =>
        unfold riseT
        rw [if_neg (by omega)]
    rw [e] at g5
    have e1 : Rs.ok row lg = res := g5
    subst e1
    refine Ret.mk _ ?_ h
    walk_at "cov"
end DL

namespace DL
open PySem PySem.Spec PyProof.Rows L2
local macro_rules | `(tactic| walk_at "has") => `(tactic| first | exact Has.here | (apply Has.there; walk_at "has"))
local macro_rules | `(tactic| walk_at "hasl") => `(tactic| first | (refine Or.inl ?_; walk_at "has") | (refine Or.inr ?_; walk_at "has"))
local macro_rules | `(tactic| walk_at "sel") => `(tactic| first | exact Sel.here | (apply Sel.there; walk_at "sel"))
local macro_rules | `(tactic| walk_at "chg") => `(tactic| first | exact Chg.here | (apply Chg.there; walk_at "chg"))
local macro_rules | `(tactic| walk_at "pull") => `(tactic| first | exact Pull.nil | (apply Pull.cons; (walk_at "sel"); exact rfl; walk_at "pull"))
local macro_rules | `(tactic| walk_at "cov") => `(tactic| first | exact Cov.refl | (apply Cov.take; (walk_at "sel"); (first | exact rfl | assumption); walk_at "cov") | (apply Cov.take; (walk_at "sel"); rotate_left; walk_at "cov") | (refine Cov.drop ?_; walk_at "cov"))
local macro_rules | `(tactic| walk_at "sub") => `(tactic| first | exact Sub.nil | (refine Sub.same (by first | rfl | assumption) ?_; walk_at "sub") | (refine Sub.any ?_; walk_at "sub") | (refine Sub.same ?_ ?_; rotate_left; walk_at "sub"))
local macro_rules | `(tactic| walk_at "side") => `(tactic| first | assumption | (with_reducible rfl) | omega | (refine mulOk_r ?_ ?_ <;> first | omega | decide) | (refine mulOk_l ?_ ?_ <;> first | omega | decide) | (refine divOk_of ?_ ?_ <;> first | omega | decide) | (refine ⟨?_, ?_⟩ <;> walk_at "side") | rfl | (simp <;> omega) | decide)
local macro_rules | `(tactic| walk_at "kn") => `(tactic| first | assumption | decide | rfl)
local macro_rules | `(tactic| walk_at "br") => `(tactic| first | (with_reducible first | refine Br.t ?_ | refine Br.f ?_) | ((with_reducible refine Br.dec_t ?_ ?_); focus walk_at "kn") | ((with_reducible refine Br.dec_f ?_ ?_); focus walk_at "kn") | ((with_reducible refine Br.ndec_t ?_ ?_); focus walk_at "kn") | ((with_reducible refine Br.ndec_f ?_ ?_); focus walk_at "kn") | (with_reducible first | (refine Br.dec ?_ ?_ <;> intro _) | (refine Br.ndec ?_ ?_ <;> intro _)) | refine Br.t ?_ | refine Br.f ?_ | (with_reducible refine Br.mk ?_ ?_ <;> intro _))
local macro_rules | `(tactic| walk_at "st") => `(tactic| ((try (conv => whnf)); first
  | walk_at "br"
  | with_reducible (intro _)
  | (refine ⟨_, (by walk_at "has" : Has _ _ _), ?_⟩)
  | (refine ⟨_, (by walk_at "hasl" : HasL _ _ _), ?_⟩)
  | (refine ⟨_, _, (by walk_at "chg" : Chg _ _ _ _ _), ?_⟩)
  | (refine ⟨_, _, _, (by walk_at "chg" : Chg _ _ _ _ _), (by first | rfl | assumption : ixN _ _ = some _), ?_⟩)
  | (refine ⟨_, _, (by walk_at "sel" : Sel _ _ _ _), ?_⟩)
  | (refine ⟨_, _, _, (by walk_at "has" : Has _ _ _), (by assumption), ?_⟩)
  | (refine ⟨_, (by first | rfl | assumption : atI _ _ = some _), ?_⟩)
  | (refine And.intro (by walk_at "side") ?_)))
local macro_rules | `(tactic| walk_at "st2") => `(tactic| first | walk_at "st" | ((try (conv => whnf)); with_reducible refine And.intro ?_ ?_; rotate_left))
local macro_rules | `(tactic| walk_at "go") => `(tactic| first | ((try (conv => whnf)); walk_at "br" <;> walk_at "go") | (walk_at "st"; walk_at "go") | (conv => whnf) | skip)
theorem outX.imp {α : Type} {cl : Cl} {k : AK} {r h mk la : Addr} {R R' : LL} {res : Rs α} {Φ Φ' : α → LL → Prop} {Ψ Ψ' : XC} (o : outX cl k r h mk la R res Φ Ψ) (f : ∀ a l, res = .ok a l → Φ a (askF cl k h mk la l ++ R) → Φ' a (askF cl k h mk la l ++ R'))
    (g : ∀ s i j l p, res = .no s i j l → Ψ .paused p ((p, .xd [(3, .tup [.int i, .int j])]) :: (r, rowO s) :: (askF cl k h mk la l ++ R)) → Ψ' .paused p ((p, .xd [(3, .tup [.int i, .int j])]) :: (r, rowO s) :: (askF cl k h mk la l ++ R'))) : outX cl k r h mk la R' res Φ' Ψ' := by
  cases res with
  | ok a l => exact f a l rfl o
  | no s i j l => exact fun p => g s i j l p rfl (o p)
theorem call_rise {cl : Cl} {L R : LL} {Φ : DK} {Ψ : XC} {r h mk la : Addr} {k : AK} {row : List Nat} {lg : Log} {a b : Int} (p low f : Nat) (hp : Pull L ((r, rowO row) :: askF cl k h mk la lg) R) (ei : a = p) (ej : b = low) (h1 : p < row.length) (h2 : p ≤ f) (h3 : k.okR row) (hv : k.lv cl lg.length)
    (h4 : lg.length + (riseT f row p low).depth ≤ 1000000) (o : outX cl k r h mk la R ((riseT f row p low).ex k lg) (fun row' L => Φ .non ((r, rowO row') :: L)) Ψ) : CtOfX (S_rise_from cl) [.ref r, .int a, .int b, .ref h] L Φ Ψ := by
  subst ei ej
  exact ⟨_, _, hp, r, h, mk, la, p, low, f, k, row, lg, rfl, rfl, ⟨h1, h2, h3, hv, h4⟩, o⟩
theorem rd_sink_from (cl : Cl) (ds : List D) (F R : LL) (Φ : DK) (Ψ : XC) (g : Addr) (P : Hp → Prop) (h : S_sink_from cl ds F R Φ Ψ) : t_sink_from cl (defW Ψ g P) (endD Φ) (startD 6 ds) (F ++ (g, .gh P) :: R) := by
  obtain ⟨r, a, mk, la, p0, k, row0, lg0, rfl, rfl, ⟨h1, h3, ⟨hv, hf⟩, h4⟩, h⟩ := h
  walk_at "go"
  unfold sinkFrom at h h4
  generalize he : (sinkT row0.length row0 p0 p0).ex k lg0 = res at h
  refine WhileI.inv (α := Nat × List Nat × Nat × Log) (fun x => [some (.ref r), some (.int x.2.2.1), some (.ref a), some (.int p0), some (.int row0.length), none]) (fun x => (r, rowO x.2.1) :: askF cl k a mk la x.2.2.2 ++ (g, .gh P) :: R)
    (fun x => x.2.2.1 < x.2.1.length ∧ x.2.1.length = row0.length ∧ row0.length ≤ x.2.2.1 + x.1 ∧ k.okR x.2.1 ∧ x.2.2.2.length + (sinkT x.1 x.2.1 x.2.2.1 p0).depth ≤ 1000000 ∧ (sinkT x.1 x.2.1 x.2.2.1 p0).ex k x.2.2.2 = res ∧ k.fits x.2.2.2.length) (fun x => row0.length - x.2.2.1) (row0.length, row0, p0, lg0) ?_ .refl ⟨h1, rfl, by dsimp only; omega, h3, h4, he, hf⟩ ?_
  · walk_at "sub"
    simp
  rintro ⟨f, row, p, lg⟩ ⟨g1, gl, g2, g3, g4, g5, gf⟩
  dsimp only at g1 gl g2 g3 g4 g5 gf ⊢
  walk_at "go"
  · rename_i hp hc
    obtain ⟨f', rfl⟩ : ∃ f', f = f' + 1 := ⟨f - 1, by omega⟩
    unfold sinkT at g4 g5
    rw [if_pos (by omega), if_pos (by omega)] at g4 g5
    rw [Tr.ex_ask] at g5
    refine ⟨_, atI_dn (2 * p + 1) (by omega) (by omega), ?_⟩
    walk_at "go"
    refine ⟨_, atI_dn (2 * p + 2) (by omega) (by omega), ?_⟩
    walk_at "go"
    refine ask_at _ _ (by walk_at "pull") rfl rfl (g3.get (by omega)) (g3.get (by omega)) (by omega) gf ?_ ?_
    · intro b hb
      rw [hb] at g5
      have g6 := Tr.depth_pos (b := b) g4
      cases b with
      | true =>
        simp only [if_true] at g5 g6
        walk_at "go"
        refine call_swap p (2 * p + 1) (by walk_at "pull") rfl (by omega) g1 (by omega) ?_
        walk_at "go"
        refine Nxt.mk (f', swapN row p (2 * p + 1), 2 * p + 1, lg ++ [(row.getD (2 * p + 1) 0, row.getD (2 * p + 2) 0, true)]) ?_ ?_ ⟨by dsimp only; rw [swapN_length]; omega, by dsimp only; rw [swapN_length]; exact gl, by dsimp only; omega, g3.swap g1 (by omega), by dsimp only; rw [List.length_append]; exact g6, g5, AK.fits_snoc hb⟩ (by dsimp only; omega)
        · walk_at "sub"
          all_goals (simp <;> omega)
        · walk_at "cov"
      | false =>
        simp only [Bool.false_eq_true, if_false] at g5 g6
        walk_at "go"
        refine call_swap p (2 * p + 2) (by walk_at "pull") rfl (by omega) g1 (by omega) ?_
        walk_at "go"
        refine Nxt.mk (f', swapN row p (2 * p + 2), 2 * p + 2, lg ++ [(row.getD (2 * p + 1) 0, row.getD (2 * p + 2) 0, false)]) ?_ ?_ ⟨by dsimp only; rw [swapN_length]; omega, by dsimp only; rw [swapN_length]; exact gl, by dsimp only; omega, g3.swap g1 (by omega), by dsimp only; rw [List.length_append]; exact g6, g5, AK.fits_snoc hb⟩ (by dsimp only; omega)
        · walk_at "sub"
          all_goals (simp <;> omega)
        · walk_at "cov"
    · intro hb q
      rw [hb] at g5
      subst g5
      refine RaiseTo.mk _ ?_ (h q)
      walk_at "cov"
  · rename_i hp hc
    obtain ⟨f', rfl⟩ : ∃ f', f = f' + 1 := ⟨f - 1, by omega⟩
    unfold sinkT at g4 g5
    rw [if_pos (by omega), if_neg (by omega)] at g4 g5
    refine call_swap p (2 * p + 1) (by walk_at "pull") rfl (by omega) g1 (by omega) ?_
    walk_at "go"
    refine Nxt.mk (f', swapN row p (2 * p + 1), 2 * p + 1, lg) ?_ ?_ ⟨by dsimp only; rw [swapN_length]; omega, by dsimp only; rw [swapN_length]; exact gl, by dsimp only; omega, g3.swap g1 (by omega), g4, g5, gf⟩ (by dsimp only; omega)
    · walk_at "sub"
      all_goals (simp <;> omega)
    · walk_at "cov"
  · rename_i hp
    have e : sinkT f row p p0 = riseT row.length row p p0 := by
      cases f with
      | zero => rfl
      | succ f =>
        unfold sinkT
        rw [if_neg (by omega)]
    rw [e] at g4 g5
    subst g5
    refine call_rise p p0 row.length (by walk_at "pull") rfl rfl g1 (by omega) g3 ⟨hv, gf⟩ g4 ?_
    refine h.imp (fun row' l _ h => ?_) (fun s i j l q _ h => ?_)
    · walk_at "go"
      refine Ret.mk _ ?_ h
      walk_at "cov"
    · refine RaiseTo.mk _ ?_ h
      walk_at "cov"
theorem call_sink {cl : Cl} {L R : LL} {Φ : DK} {Ψ : XC} {r h mk la : Addr} {k : AK} {row : List Nat} {lg : Log} {a : Int} (p : Nat) (hp : Pull L ((r, rowO row) :: askF cl k h mk la lg) R) (ei : a = p) (h1 : p < row.length) (h3 : k.okR row) (hv : k.lv cl lg.length)
    (h4 : lg.length + (sinkFrom row p).depth ≤ 1000000) (o : outX cl k r h mk la R ((sinkFrom row p).ex k lg) (fun row' L => Φ .non ((r, rowO row') :: L)) Ψ) : CtOfX (S_sink_from cl) [.ref r, .int a, .ref h] L Φ Ψ := by
  subst ei
  exact ⟨_, _, hp, r, h, mk, la, p, k, row, lg, rfl, rfl, ⟨h1, h3, hv, h4⟩, o⟩
/-! rows of trees -/
def TrRow {α : Type} (k : AK) (n : Nat) (len : α → List Nat) : Tr α → Prop
  | .ret a => (len a).length = n ∧ k.okR (len a)
  | .ask _ _ _ c => ∀ b, TrRow k n len (c b)
theorem TrRow.ex {α : Type} {k : AK} {n : Nat} {len : α → List Nat} : ∀ {t : Tr α} {l : Log} {a : α} {l' : Log}, TrRow k n len t → t.ex k l = .ok a l' → (len a).length = n ∧ k.okR (len a)
  | .ret a, l, a', l', h, e => by
    have e1 : Rs.ok a l = Rs.ok a' l' := e
    cases e1
    exact h
  | .ask s i j c, l, a', l', h, e => by
    rw [Tr.ex_ask] at e
    cases hb : k.ans l.length i j with
    | none => rw [hb] at e; cases e
    | some b =>
      rw [hb] at e
      exact TrRow.ex (h b) e
theorem riseT_row {k : AK} : ∀ (f : Nat) (row : List Nat) (p low : Nat), p < row.length → k.okR row → TrRow k row.length id (riseT f row p low)
  | 0, row, p, low, _, h => ⟨rfl, h⟩
  | f + 1, row, p, low, hp, h => by
    unfold riseT
    split
    · intro b
      cases b with
      | true =>
        have := riseT_row f (swapN row p ((p - 1) / 2)) ((p - 1) / 2) low (by rw [swapN_length]; omega) (h.swap hp (by omega))
        rw [swapN_length] at this
        exact this
      | false => exact ⟨rfl, h⟩
    · exact ⟨rfl, h⟩
theorem sinkT_row {k : AK} : ∀ (f : Nat) (row : List Nat) (p low : Nat), p < row.length → k.okR row → TrRow k row.length id (sinkT f row p low)
  | 0, row, p, low, hp, h => riseT_row _ row p low hp h
  | f + 1, row, p, low, hp, h => by
    unfold sinkT
    split
    · split
      · intro b
        have := sinkT_row f (swapN row p (if b then 2 * p + 1 else 2 * p + 2)) (if b then 2 * p + 1 else 2 * p + 2) low (by rw [swapN_length]; split <;> omega) (h.swap hp (by split <;> omega))
        rw [swapN_length] at this
        exact this
      · have := sinkT_row f (swapN row p (2 * p + 1)) (2 * p + 1) low (by rw [swapN_length]; omega) (h.swap hp (by omega))
        rw [swapN_length] at this
        exact this
    · exact riseT_row _ row p low hp h
theorem sinkFrom_ex {k : AK} {row : List Nat} {p : Nat} {l l' : Log} {a : List Nat} (hp : p < row.length) (h : k.okR row) (e : (sinkFrom row p).ex k l = .ok a l') : a.length = row.length ∧ k.okR a := TrRow.ex (sinkT_row _ _ _ _ hp h) e
theorem Tr.ex_len {α : Type} {k : AK} {t : Tr α} {l l' : Log} {a : α} (e : t.ex k l = .ok a l') : l'.length ≤ l.length + t.depth := by
  have := Tr.ex_log k t l
  rw [e] at this
  exact this
theorem Tr.ex_fits {α : Type} {k : AK} : ∀ {t : Tr α} {l l' : Log} {a : α}, t.ex k l = .ok a l' → k.fits l.length → k.fits l'.length
  | .ret a, l, l', a', e, h => by
    have e1 : Rs.ok a l = Rs.ok a' l' := e
    cases e1
    exact h
  | .ask s i j c, l, l', a', e, h => by
    rw [Tr.ex_ask] at e
    cases hb : k.ans l.length i j with
    | none => rw [hb] at e; cases e
    | some b =>
      rw [hb] at e
      exact Tr.ex_fits e (AK.fits_snoc hb)
theorem Tr.depth_bind_at {α β : Type} {k : AK} {f : α → Tr β} : ∀ {t : Tr α} {l l' : Log} {a : α}, t.ex k l = .ok a l' → l'.length + (f a).depth ≤ l.length + (t.bind f).depth
  | .ret a, l, l', a', e => by
    have e1 : Rs.ok a l = Rs.ok a' l' := e
    cases e1
    exact Nat.le_refl _
  | .ask s i j c, l, l', a', e => by
    rw [Tr.ex_ask] at e
    cases hb : k.ans l.length i j with
    | none => rw [hb] at e; cases e
    | some b =>
      rw [hb] at e
      have := Tr.depth_bind_at (f := f) e
      rw [List.length_append] at this
      show _ ≤ l.length + (max ((c true).bind f).depth ((c false).bind f).depth + 1)
      simp only [List.length_cons, List.length_nil] at this
      cases b <;> omega
theorem rd_make_heap (cl : Cl) (ds : List D) (F R : LL) (Φ : DK) (Ψ : XC) (g : Addr) (P : Hp → Prop) (h : S_make_heap cl ds F R Φ Ψ) : t_make_heap cl (defW Ψ g P) (endD Φ) (startD 3 ds) (F ++ (g, .gh P) :: R) := by
  obtain ⟨r, a, mk, la, k, row0, lg0, rfl, rfl, ⟨hz, h3, ⟨hv, hf⟩, h4⟩, h⟩ := h
  walk_at "go"
  generalize he : (makeT (row0.length / 2) row0).ex k lg0 = res at h
  have el : (rgDn (((List.map dn row0).length : Int) / 2 - 1) (-1)).length = row0.length / 2 := by
    rw [rgDn_length]
    simp
    omega
  refine ForI.inv (α := List Nat × Log × D) (fun i x => [some (.ref r), some (.ref a), (if i = 0 then none else some x.2.2)]) (fun i x => (r, rowO x.1) :: askF cl k a mk la x.2.1 ++ (g, .gh P) :: R)
    (fun i x => i ≤ row0.length / 2 ∧ x.1.length = row0.length ∧ k.okR x.1 ∧ x.2.1.length + (makeT (row0.length / 2 - i) x.1).depth ≤ 1000000 ∧ (makeT (row0.length / 2 - i) x.1).ex k x.2.1 = res ∧ k.fits x.2.1.length) (row0, lg0, .non) (by walk_at "sub") .refl ⟨Nat.zero_le _, rfl, h3, h4, he, hf⟩ ?_ ?_
  · rintro i ⟨row, lg, dd⟩ d hd ⟨g0, g1, g2, g3, g4, gf⟩
    dsimp only at g0 g1 g2 g3 g4 gf
    obtain ⟨hi, rfl⟩ := rgDn_get hd
    have hi' : i < row0.length / 2 := by
      simp at hi
      omega
    obtain ⟨n, hn⟩ : ∃ n, row0.length / 2 - i = n + 1 := ⟨row0.length / 2 - i - 1, by omega⟩
    rw [hn] at g3 g4
    unfold makeT at g3 g4
    rw [Tr.ex_bind] at g4
    refine ⟨trivial, ?_⟩
    walk_at "go"
    refine call_sink n (by walk_at "pull") (by simp; omega) (by omega) g2 ⟨hv, gf⟩ ?_ ?_
    · refine Nat.le_trans ?_ g3
      refine Nat.add_le_add_left ?_ _
      generalize sinkFrom row n = t
      induction t with
      | ret a => exact Nat.zero_le _
      | ask s i j c ih =>
        show max (c true).depth (c false).depth + 1 ≤ max ((c true).bind _).depth ((c false).bind _).depth + 1
        have a := ih true
        have b := ih false
        omega
    · cases hx : (sinkFrom row n).ex k lg with
      | ok row' l' =>
        rw [hx] at g4
        obtain ⟨z1, z2⟩ := sinkFrom_ex (by omega) g2 hx
        have z3 := Tr.depth_bind_at (f := makeT n) hx
        show (_ : Prop)
        unfold outX
        walk_at "go"
        refine Nx1.mk (row', l', .int ((((List.map dn row0).length : Int) / 2 - 1) - i)) ?_ ?_ ⟨by omega, by show row'.length = row0.length; omega, z2, ?_, ?_, Tr.ex_fits hx gf⟩
        · walk_at "sub"
        · walk_at "cov"
        · dsimp only
          rw [show row0.length / 2 - (i + 1) = n by omega]
          omega
        · dsimp only
          rw [show row0.length / 2 - (i + 1) = n by omega]
          exact g4
      | no s i' j l' =>
        rw [hx] at g4
        subst g4
        intro q
        refine RaiseTo.mk _ ?_ (h q)
        walk_at "cov"
  · rintro ⟨row, lg, dd⟩ ⟨g0, g1, g2, g3, g4, gf⟩
    dsimp only at g0 g1 g2 g3 g4 gf
    refine ⟨trivial, ?_⟩
    rw [el, Nat.sub_self] at g4
    have e1 : Rs.ok row lg = res := g4
    subst e1
    refine Ret.mk _ ?_ h
    walk_at "cov"
end DL

namespace DL
open PySem PySem.Spec PyProof.Rows L2
local macro_rules | `(tactic| walk_at "has") => `(tactic| first | exact Has.here | (apply Has.there; walk_at "has"))
local macro_rules | `(tactic| walk_at "hasl") => `(tactic| first | (refine Or.inl ?_; walk_at "has") | (refine Or.inr ?_; walk_at "has"))
local macro_rules | `(tactic| walk_at "sel") => `(tactic| first | exact Sel.here | (apply Sel.there; walk_at "sel"))
local macro_rules | `(tactic| walk_at "chg") => `(tactic| first | exact Chg.here | (apply Chg.there; walk_at "chg"))
local macro_rules | `(tactic| walk_at "pull") => `(tactic| first | exact Pull.nil | (apply Pull.cons; (walk_at "sel"); exact rfl; walk_at "pull"))
local macro_rules | `(tactic| walk_at "cov") => `(tactic| first | exact Cov.refl | (apply Cov.take; (walk_at "sel"); (first | exact rfl | assumption); walk_at "cov") | (apply Cov.take; (walk_at "sel"); rotate_left; walk_at "cov") | (refine Cov.drop ?_; walk_at "cov"))
local macro_rules | `(tactic| walk_at "sub") => `(tactic| first | exact Sub.nil | (refine Sub.same (by first | rfl | assumption) ?_; walk_at "sub") | (refine Sub.any ?_; walk_at "sub") | (refine Sub.same ?_ ?_; rotate_left; walk_at "sub"))
local macro_rules | `(tactic| walk_at "side") => `(tactic| first | assumption | (with_reducible rfl) | omega | (refine mulOk_r ?_ ?_ <;> first | omega | decide) | (refine mulOk_l ?_ ?_ <;> first | omega | decide) | (refine divOk_of ?_ ?_ <;> first | omega | decide) | (refine ⟨?_, ?_⟩ <;> walk_at "side") | rfl | (simp <;> omega) | decide)
local macro_rules | `(tactic| walk_at "kn") => `(tactic| first | assumption | decide | rfl)
local macro_rules | `(tactic| walk_at "br") => `(tactic| first | (with_reducible first | refine Br.t ?_ | refine Br.f ?_) | ((with_reducible refine Br.dec_t ?_ ?_); focus walk_at "kn") | ((with_reducible refine Br.dec_f ?_ ?_); focus walk_at "kn") | ((with_reducible refine Br.ndec_t ?_ ?_); focus walk_at "kn") | ((with_reducible refine Br.ndec_f ?_ ?_); focus walk_at "kn") | (with_reducible first | (refine Br.dec ?_ ?_ <;> intro _) | (refine Br.ndec ?_ ?_ <;> intro _)) | refine Br.t ?_ | refine Br.f ?_ | (with_reducible refine Br.mk ?_ ?_ <;> intro _))
local macro_rules | `(tactic| walk_at "st") => `(tactic| ((try (conv => whnf)); first
  | walk_at "br"
  | with_reducible (intro _)
  | (refine ⟨_, (by walk_at "has" : Has _ _ _), ?_⟩)
  | (refine ⟨_, (by walk_at "hasl" : HasL _ _ _), ?_⟩)
  | (refine ⟨_, _, (by walk_at "chg" : Chg _ _ _ _ _), ?_⟩)
  | (refine ⟨_, _, _, (by walk_at "chg" : Chg _ _ _ _ _), (by first | rfl | assumption : ixN _ _ = some _), ?_⟩)
  | (refine ⟨_, _, (by walk_at "sel" : Sel _ _ _ _), ?_⟩)
  | (refine ⟨_, _, _, (by walk_at "has" : Has _ _ _), (by assumption), ?_⟩)
  | (refine ⟨_, (by first | rfl | assumption : atI _ _ = some _), ?_⟩)
  | (refine And.intro (by walk_at "side") ?_)))
local macro_rules | `(tactic| walk_at "st2") => `(tactic| first | walk_at "st" | ((try (conv => whnf)); with_reducible refine And.intro ?_ ?_; rotate_left))
local macro_rules | `(tactic| walk_at "go") => `(tactic| first | ((try (conv => whnf)); walk_at "br" <;> walk_at "go") | (walk_at "st"; walk_at "go") | (conv => whnf) | skip)
theorem call_put {cl : Cl} {L R : LL} {Φ : DK} {Ψ : XC} {r h mk la : Addr} {k : AK} {row : List Nat} {lg : Log} {a : Int} (item : Nat) (hp : Pull L ((r, rowO row) :: askF cl k h mk la lg) R) (ei : a = item) (h1 : 0 < row.length) (h2 : k.ok item) (h3 : k.okR row) (hv : k.lv cl lg.length)
    (h4 : lg.length + (putT row item).depth ≤ 1000000) (o : outX cl k r h mk la R ((putT row item).ex k lg) (fun row' L => Φ (.int (row.getD 0 0 : Nat)) ((r, rowO row') :: L)) Ψ) : CtOfX (S_put_first cl) [.ref r, .int a, .ref h] L Φ Ψ := by
  subst ei
  exact ⟨_, _, hp, r, h, mk, la, item, k, row, lg, rfl, rfl, ⟨h1, h2, h3, hv, h4⟩, o⟩
theorem rd_put_first (cl : Cl) (ds : List D) (F R : LL) (Φ : DK) (Ψ : XC) (g : Addr) (P : Hp → Prop) (h : S_put_first cl ds F R Φ Ψ) : t_put_first cl (defW Ψ g P) (endD Φ) (startD 4 ds) (F ++ (g, .gh P) :: R) := by
  obtain ⟨r, a, mk, la, item, k, row, lg, rfl, rfl, ⟨h1, h2, h3, hv, h4⟩, h⟩ := h
  walk_at "go"
  refine ⟨_, atI_dn 0 rfl h1, ?_⟩
  walk_at "go"
  refine ⟨_, _, 0, by walk_at "chg", ixN_of 0 rfl (by simpa using h1), ?_⟩
  walk_at "go"
  have e : (row.map dn).set 0 (D.int item) = (row.set 0 item).map dn := by simp [List.map_set, dn]
  rw [e]
  refine call_sink 0 (by walk_at "pull") rfl (by rw [List.length_set]; exact h1) (h3.set h2) hv h4 ?_
  refine h.imp (fun row' l _ h => ?_) (fun s i j l q _ h => ?_)
  · walk_at "go"
    refine Ret.mk _ ?_ h
    walk_at "cov"
  · refine RaiseTo.mk _ ?_ h
    walk_at "cov"
theorem call_take {cl : Cl} {L R : LL} {Φ : DK} {Ψ : XC} {r h mk la : Addr} {k : AK} {row : List Nat} {lg : Log} (hp : Pull L ((r, rowO row) :: askF cl k h mk la lg) R) (h1 : 0 < row.length) (h3 : k.okR row) (hv : k.lv cl lg.length)
    (h4 : lg.length + (takeT row).depth ≤ 1000000) (o : outX cl k r h mk la R ((takeT row).ex k lg) (fun q L => Φ (.int q.2) ((r, rowO q.1) :: L)) Ψ) : CtOfX (S_take_first cl) [.ref r, .ref h] L Φ Ψ :=
  ⟨_, _, hp, r, h, mk, la, k, row, lg, rfl, rfl, ⟨h1, h3, hv, h4⟩, o⟩
theorem AK.okR.dropLast {k : AK} {row : List Nat} (h : k.okR row) : k.okR row.dropLast := fun x hx => h x (List.dropLast_subset row hx)
theorem getD_dropLast {row : List Nat} (h : 1 < row.length) : row.dropLast.getD 0 0 = row.getD 0 0 := by
  cases row with
  | nil => simp at h
  | cons a r =>
    cases r with
    | nil => simp at h
    | cons b r => simp
theorem map_dn (xs : List Nat) : xs.map dn = (xs.map fun n : Nat => (n : Int)).map D.int := by
  rw [List.map_map]
  rfl
theorem deepE.nats {a b : Addr} {L : LL} {xs ys : List Nat} {k : Bool → Prop} (ha : HasL L a (xs.map dn)) (hb : HasL L b (ys.map dn)) (h : k (decide (xs = ys))) : deepE (.ref a) (.ref b) L k := by
  rw [map_dn] at ha hb
  refine deepE.ints ha hb ?_
  have aux : ∀ xs ys : List Nat, ((xs.map fun n : Nat => (n : Int)) = ys.map fun n : Nat => (n : Int)) → xs = ys := by
    intro xs
    induction xs with
    | nil =>
      intro ys h
      cases ys with
      | nil => rfl
      | cons y ys => cases h
    | cons x xs ih =>
      intro ys h
      cases ys with
      | nil => cases h
      | cons y ys =>
        rw [List.map_cons, List.map_cons] at h
        obtain ⟨h1, h2⟩ := List.cons.inj h
        rw [ih ys h2, Int.ofNat.inj h1]
  have e : ((xs.map fun n : Nat => (n : Int)) = ys.map fun n : Nat => (n : Int)) ↔ xs = ys := ⟨aux xs ys, fun h => by rw [h]⟩
  rw [decide_eq_decide.mpr e]
  exact h
theorem deepE.isNil {a b : Addr} {L : LL} {xs : List Nat} {k : Bool → Prop} (ha : HasL L a (xs.map dn)) (hb : HasL L b []) (h : k (decide (xs = []))) : deepE (.ref a) (.ref b) L k := deepE.nats (ys := []) ha hb h
theorem rd_take_first (cl : Cl) (ds : List D) (F R : LL) (Φ : DK) (Ψ : XC) (g : Addr) (P : Hp → Prop) (h : S_take_first cl ds F R Φ Ψ) : t_take_first cl (defW Ψ g P) (endD Φ) (startD 4 ds) (F ++ (g, .gh P) :: R) := by
  obtain ⟨r, a, mk, la, k, row, lg, rfl, rfl, ⟨h1, h3, hv, h4⟩, h⟩ := h
  walk_at "go"
  refine ⟨dn (row.getD (row.length - 1) 0), ?_, ?_⟩
  · rw [List.length_map, List.getElem?_map, List.getElem?_eq_getElem (by omega)]
    simp [List.getD, List.getElem?_eq_getElem (show row.length - 1 < row.length by omega)]
  have ed : (row.map dn).dropLast = row.dropLast.map dn := by rw [List.map_dropLast]
  rw [ed]
  walk_at "go"
  by_cases h6 : row.length = 1
  · obtain ⟨x, rfl⟩ := List.length_eq_one_iff.mp h6
    refine deepE.isNil (xs := []) (by walk_at "hasl") (by walk_at "hasl") ?_
    walk_at "go"
    refine Ret.mk _ ?_ h
    walk_at "cov"
  · refine deepE.isNil (by walk_at "hasl") (by walk_at "hasl") ?_
    have e0 : row.dropLast ≠ [] := fun z => by
      have z := congrArg List.length z
      rw [List.length_dropLast, List.length_nil] at z
      omega
    rw [decide_eq_false e0]
    unfold takeT at h h4
    rw [if_neg h6] at h h4
    rw [Tr.ex_bind] at h
    rw [Tr.depth_bind_ret] at h4
    walk_at "go"
    refine ⟨_, atI_dn (row := row.dropLast) 0 rfl (by simp; omega), ?_⟩
    walk_at "go"
    refine ⟨_, _, 0, by walk_at "chg", ixN_of 0 rfl (by simp; omega), ?_⟩
    walk_at "go"
    have e : (row.dropLast.map dn).set 0 (dn (row.getD (row.length - 1) 0)) = (row.dropLast.set 0 (row.getD (row.length - 1) 0)).map dn := by simp [List.map_set, dn]
    rw [e]
    refine call_sink 0 (by walk_at "pull") rfl (by rw [List.length_set]; simp; omega) (h3.dropLast.set (h3.get (by omega))) hv h4 ?_
    show outX cl k r a mk la _ ((putT row.dropLast (row.getD (row.length - 1) 0)).ex k lg) _ _
    cases hx : (putT row.dropLast (row.getD (row.length - 1) 0)).ex k lg with
    | ok row' l =>
      rw [hx] at h
      unfold outX
      walk_at "go"
      rw [getD_dropLast (by omega)]
      refine Ret.mk _ ?_ h
      walk_at "cov"
    | no s i j l =>
      rw [hx] at h
      intro q
      refine RaiseTo.mk _ ?_ (h q)
      walk_at "cov"
end DL

namespace DL
open PySem PySem.Spec PyProof.Rows L2
local macro_rules | `(tactic| walk_at "has") => `(tactic| first | exact Has.here | (apply Has.there; walk_at "has"))
local macro_rules | `(tactic| walk_at "hasl") => `(tactic| first | (refine Or.inl ?_; walk_at "has") | (refine Or.inr ?_; walk_at "has"))
local macro_rules | `(tactic| walk_at "sel") => `(tactic| first | exact Sel.here | (apply Sel.there; walk_at "sel"))
local macro_rules | `(tactic| walk_at "chg") => `(tactic| first | exact Chg.here | (apply Chg.there; walk_at "chg"))
local macro_rules | `(tactic| walk_at "pull") => `(tactic| first | exact Pull.nil | (apply Pull.cons; (walk_at "sel"); exact rfl; walk_at "pull"))
local macro_rules | `(tactic| walk_at "cov") => `(tactic| first | exact Cov.refl | (apply Cov.take; (walk_at "sel"); (first | exact rfl | assumption); walk_at "cov") | (apply Cov.take; (walk_at "sel"); rotate_left; walk_at "cov") | (refine Cov.drop ?_; walk_at "cov"))
local macro_rules | `(tactic| walk_at "sub") => `(tactic| first | exact Sub.nil | (refine Sub.same (by first | rfl | assumption) ?_; walk_at "sub") | (refine Sub.any ?_; walk_at "sub") | (refine Sub.same ?_ ?_; rotate_left; walk_at "sub"))
local macro_rules | `(tactic| walk_at "side") => `(tactic| first | assumption | (with_reducible rfl) | omega | (refine mulOk_r ?_ ?_ <;> first | omega | decide) | (refine mulOk_l ?_ ?_ <;> first | omega | decide) | (refine divOk_of ?_ ?_ <;> first | omega | decide) | (refine ⟨?_, ?_⟩ <;> walk_at "side") | rfl | (simp <;> omega) | decide)
local macro_rules | `(tactic| walk_at "kn") => `(tactic| first | assumption | decide | rfl)
local macro_rules | `(tactic| walk_at "br") => `(tactic| first | (with_reducible first | refine Br.t ?_ | refine Br.f ?_) | ((with_reducible refine Br.dec_t ?_ ?_); focus walk_at "kn") | ((with_reducible refine Br.dec_f ?_ ?_); focus walk_at "kn") | ((with_reducible refine Br.ndec_t ?_ ?_); focus walk_at "kn") | ((with_reducible refine Br.ndec_f ?_ ?_); focus walk_at "kn") | (with_reducible first | (refine Br.dec ?_ ?_ <;> intro _) | (refine Br.ndec ?_ ?_ <;> intro _)) | refine Br.t ?_ | refine Br.f ?_ | (with_reducible refine Br.mk ?_ ?_ <;> intro _))
local macro_rules | `(tactic| walk_at "st") => `(tactic| ((try (conv => whnf)); first
  | walk_at "br"
  | with_reducible (intro _)
  | (refine ⟨_, (by walk_at "has" : Has _ _ _), ?_⟩)
  | (refine ⟨_, (by walk_at "hasl" : HasL _ _ _), ?_⟩)
  | (refine ⟨_, _, (by walk_at "chg" : Chg _ _ _ _ _), ?_⟩)
  | (refine ⟨_, _, _, (by walk_at "chg" : Chg _ _ _ _ _), (by first | rfl | assumption : ixN _ _ = some _), ?_⟩)
  | (refine ⟨_, _, (by walk_at "sel" : Sel _ _ _ _), ?_⟩)
  | (refine ⟨_, _, _, (by walk_at "has" : Has _ _ _), (by assumption), ?_⟩)
  | (refine ⟨_, (by first | rfl | assumption : atI _ _ = some _), ?_⟩)
  | (refine And.intro (by walk_at "side") ?_)))
local macro_rules | `(tactic| walk_at "st2") => `(tactic| first | walk_at "st" | ((try (conv => whnf)); with_reducible refine And.intro ?_ ?_; rotate_left))
local macro_rules | `(tactic| walk_at "go") => `(tactic| first | ((try (conv => whnf)); walk_at "br" <;> walk_at "go") | (walk_at "st"; walk_at "go") | (conv => whnf) | skip)
theorem call_make {cl : Cl} {L R : LL} {Φ : DK} {Ψ : XC} {r h mk la : Addr} {k : AK} {row : List Nat} {lg : Log} (hp : Pull L ((r, rowO row) :: askF cl k h mk la lg) R) (h1 : row.length ≤ 100000) (h3 : k.okR row) (hv : k.lv cl lg.length)
    (h4 : lg.length + (makeT (row.length / 2) row).depth ≤ 1000000) (o : outX cl k r h mk la R ((makeT (row.length / 2) row).ex k lg) (fun row' L => Φ .non ((r, rowO row') :: L)) Ψ) : CtOfX (S_make_heap cl) [.ref r, .ref h] L Φ Ψ :=
  ⟨_, _, hp, r, h, mk, la, k, row, lg, rfl, rfl, ⟨h1, h3, hv, h4⟩, o⟩
theorem outX_bind {α β : Type} {cl : Cl} {k : AK} {r h mk la : Addr} {R : LL} {t : Tr α} {f : α → β} {lg : Log} {Φ : β → LL → Prop} {Ψ : XC} (o : outX cl k r h mk la R ((t.bind fun a => .ret (f a)).ex k lg) Φ Ψ) : outX cl k r h mk la R (t.ex k lg) (fun a => Φ (f a)) Ψ := by
  rw [Tr.ex_bind] at o
  cases hx : t.ex k lg with
  | ok a l => rw [hx] at o; exact o
  | no s i j l => rw [hx] at o; exact o
theorem rd_do_deed (cl : Cl) (ds : List D) (F R : LL) (Φ : DK) (Ψ : XC) (g : Addr) (P : Hp → Prop) (h : S_do_deed cl ds F R Φ Ψ) : t_do_deed cl (defW Ψ g P) (endD Φ) (startD 4 ds) (F ++ (g, .gh P) :: R) := by
  obtain ⟨w, r, a, mk, la, k, row, lg, rfl, rfl, ⟨⟨h1, h2, hz, h3⟩, hv, h4⟩, h⟩ := h
  cases w with
  | heapify =>
    rw [show Deed.heapify.str = ("heapify" : Str) from rfl]
    walk_at "go"
    have h := outX_bind h
    refine call_make (by walk_at "pull") hz h3 hv (by unfold deedT at h4; rw [Tr.depth_bind_ret] at h4; exact h4) ?_
    refine h.imp (fun row' l _ h => ?_) (fun s i j l q _ h => ?_)
    · walk_at "go"
      refine Ret.mk _ ?_ h
      walk_at "cov"
    · refine RaiseTo.mk _ ?_ h
      walk_at "cov"
  | push =>
    rw [show Deed.push.str = ("push" : Str) from rfl]
    walk_at "go"
    have h := outX_bind h
    have e : row.map dn ++ [D.int ((row.map dn).length : Nat)] = (row ++ [row.length]).map dn := by simp [dn]
    rw [e]
    have hk : k.okR (row ++ [row.length]) := fun x hx => by
      rcases List.mem_append.mp hx with hx | hx
      · exact h3 x hx
      · rw [List.mem_singleton.mp hx]
        exact h2 (by decide) (by decide)
    refine call_rise row.length 0 (row.length + 1) (by walk_at "pull") (by simp) rfl (by simp) (by omega) hk hv (by unfold deedT at h4; rw [Tr.depth_bind_ret] at h4; exact h4) ?_
    refine h.imp (fun row' l _ h => ?_) (fun s i j l q _ h => ?_)
    · walk_at "go"
      refine Ret.mk _ ?_ h
      walk_at "cov"
    · refine RaiseTo.mk _ ?_ h
      walk_at "cov"
  | pop =>
    rw [show Deed.pop.str = ("pop" : Str) from rfl]
    walk_at "go"
    have h := outX_bind h
    refine call_take (by walk_at "pull") (h1 (.inl rfl)) h3 hv (by unfold deedT at h4; rw [Tr.depth_bind_ret] at h4; exact h4) ?_
    refine h.imp (fun row' l _ h => ?_) (fun s i j l q _ h => ?_)
    · walk_at "go"
      refine Ret.mk _ ?_ h
      walk_at "cov"
    · refine RaiseTo.mk _ ?_ h
      walk_at "cov"
  | replace =>
    rw [show Deed.replace.str = ("replace" : Str) from rfl]
    walk_at "go"
    have h := outX_bind h
    refine call_put row.length (by walk_at "pull") (by simp) (h1 (.inr rfl)) (h2 (by decide) (by decide)) h3 hv (by unfold deedT at h4; rw [Tr.depth_bind_ret] at h4; exact h4) ?_
    refine h.imp (fun row' l _ h => ?_) (fun s i j l q _ h => ?_)
    · walk_at "go"
      refine Ret.mk _ ?_ h
      walk_at "cov"
    · refine RaiseTo.mk _ ?_ h
      walk_at "cov"
  | pushpop =>
    rw [show Deed.pushpop.str = ("pushpop" : Str) from rfl]
    walk_at "go"
    refine deepE.isNil (by walk_at "hasl") (by walk_at "hasl") ?_
    by_cases h6 : row = []
    · subst h6
      walk_at "go"
      refine Ret.mk _ ?_ h
      walk_at "cov"
    · rw [decide_eq_false h6]
      have hl : 0 < row.length := List.length_pos_iff.mpr h6
      have ed : deedT .pushpop row = .ask row (row.getD 0 0) row.length fun b => if b then (putT row row.length).bind fun r => .ret (r, some (row.getD 0 0)) else .ret (row, some row.length) := if_neg h6
      rw [ed] at h h4
      rw [Tr.ex_ask] at h
      have hv1 := hv.1
      walk_at "go"
      refine ⟨_, atI_dn 0 rfl hl, ?_⟩
      walk_at "go"
      refine ask_at _ row.length (by walk_at "pull") rfl (by simp) (h3.get hl) (h2 (by decide) (by decide)) (by omega) hv.2 ?_ ?_
      · intro b hb
        rw [hb] at h
        have g6 := Tr.depth_pos (b := b) h4
        cases b with
        | true =>
          simp only [if_true] at h g6
          walk_at "go"
          have h := outX_bind h
          refine call_put row.length (by walk_at "pull") (by simp) hl (h2 (by decide) (by decide)) h3 ⟨hv.1, AK.fits_snoc hb⟩ (by rw [Tr.depth_bind_ret] at g6; rw [List.length_append]; exact g6) ?_
          refine h.imp (fun row' l _ h => ?_) (fun s i j l q _ h => ?_)
          · walk_at "go"
            refine Ret.mk _ ?_ h
            walk_at "cov"
          · refine RaiseTo.mk _ ?_ h
            walk_at "cov"
        | false =>
          simp only [Bool.false_eq_true, if_false] at h
          walk_at "go"
          refine Ret.eq ?_ h (by simp [optD])
          walk_at "cov"
      · intro hb q
        rw [hb] at h
        refine RaiseTo.mk _ ?_ (h q)
        walk_at "cov"
end DL

/-! heaps: the laws' own deeds; contracts -/
namespace DL
open PySem PySem.Spec PyProof.Rows L2
/-! draws: any number in range; b, n stay small enough to be cubed -/
abbrev wellO (a b n : Int) : LO := .lst [.int a, .int b, .int n]
def WellOk (b n N : Int) : Prop := 0 ≤ b ∧ b < 2147483647 ∧ 0 ≤ n ∧ n ≤ N
def S_law_well (cl : Cl) : Sc := fun ds F R Φ => ∃ c : Int, ds = [.int c] ∧ F = [] ∧ ∀ p a b, 0 ≤ b → b < 2147483647 → Φ (.ref p) ([(p, wellO a b 0)] ++ R)
def C__law_well (cl : Cl) : Ct := CtOf (S_law_well cl)
def S_law_draw (cl : Cl) : Sc := fun ds F R Φ => ∃ (p : Addr) (a b n z N : Int), ds = [.ref p, .int z] ∧ F = [(p, wellO a b n)] ∧ (0 < z ∧ DivOk z ∧ WellOk b n N ∧ N ≤ 1000000000) ∧ ∀ d a' n' : Int, 0 ≤ d → d < z → WellOk b n' (N + 1) → Φ (.int d) ([(p, wellO a' b n')] ++ R)
def C__law_draw (cl : Cl) : Ct := CtOf (S_law_draw cl)
def S_law_pick (cl : Cl) : Sc := fun ds F R Φ => ∃ (p q : Addr) (a b n N : Int) (xs : List D), ds = [.ref p, .ref q] ∧ F = [(p, wellO a b n), (q, .lst xs)] ∧ (0 < xs.length ∧ xs.length ≤ 1000 ∧ WellOk b n N ∧ N ≤ 1000000000) ∧ ∀ (i : Nat) x a' n', xs[i]? = some x → WellOk b n' (N + 1) → Φ x ([(p, wellO a' b n'), (q, .lst xs)] ++ R)
def C__law_pick (cl : Cl) : Ct := CtOf (S_law_pick cl)
/-! the log of a law: answers, and what was asked -/
def qD (q : Nat × Nat) : D := .tup [.int q.1, .int q.2]
def pr (e : Nat × Nat × Bool) : Nat × Nat := (e.1, e.2.1)
def logF (l q s : Addr) (as : List Bool) (asked : List (Nat × Nat)) : LL := [(l, .lst [.ref q, .ref s]), (q, .lst (as.map .bl)), (s, .lst (asked.map qD))]
def optB : Option Bool → D
  | none => .non
  | some b => .bl b
def S_law_ask (cl : Cl) : Sc := fun ds F R Φ => ∃ (l q s : Addr) (as : List Bool) (asked : List (Nat × Nat)) (i j : Nat), ds = [.ref l, .int i, .int j] ∧ F = logF l q s as asked ∧ asked.length ≤ 1000000 ∧ Φ (optB as[asked.length]?) (logF l q s as (asked ++ [(i, j)]) ++ R)
def C__law_ask (cl : Cl) : Ct := CtOf (S_law_ask cl)
/-- what comes of a tree in a law -/
def outL {α : Type} (r l q s : Addr) (as : List Bool) (R : LL) (res : Rs α) (Φ : α → LL → Prop) (Ψ : LL → Prop) : Prop := match res with
  | .ok a lg => Φ a (logF l q s as (lg.map pr) ++ R)
  | .no st i j lg => Ψ ((r, rowO st) :: (logF l q s as (lg.map pr ++ [(i, j)]) ++ R))
def S_law_up (cl : Cl) : Sc := fun ds F R Φ => ∃ (r l q s : Addr) (row : List Nat) (low p : Nat) (as : List Bool) (lg : Log), ds = [.ref r, .int low, .int p, .ref l] ∧ F = (r, rowO row) :: logF l q s as (lg.map pr) ∧
  (p < row.length ∧ row.length ≤ 100000 ∧ lg.length + (riseT row.length row p low).depth ≤ 1000000) ∧ outL r l q s as R ((riseT row.length row p low).ex (.told as) lg) (fun row' L => Φ (.bl true) ((r, rowO row') :: L)) (Φ (.bl false))
def C__law_up (cl : Cl) : Ct := CtOf (S_law_up cl)
def S_law_down (cl : Cl) : Sc := fun ds F R Φ => ∃ (r l q s : Addr) (row : List Nat) (p : Nat) (as : List Bool) (lg : Log), ds = [.ref r, .int p, .ref l] ∧ F = (r, rowO row) :: logF l q s as (lg.map pr) ∧
  (p < row.length ∧ row.length ≤ 100000 ∧ lg.length + (sinkFrom row p).depth ≤ 1000000) ∧ outL r l q s as R ((sinkFrom row p).ex (.told as) lg) (fun row' L => Φ (.bl true) ((r, rowO row') :: L)) (Φ (.bl false))
def C__law_down (cl : Cl) : Ct := CtOf (S_law_down cl)
def S_law_first (cl : Cl) : Sc := fun ds F R Φ => ∃ (r l q s : Addr) (row : List Nat) (item : Nat) (as : List Bool) (lg : Log), ds = [.ref r, .int item, .ref l] ∧ F = (r, rowO row) :: logF l q s as (lg.map pr) ∧
  (0 < row.length ∧ row.length ≤ 100000 ∧ lg.length + (putT row item).depth ≤ 1000000) ∧
  outL r l q s as R ((putT row item).ex (.told as) lg) (fun row' L => Φ (.tup [.int (row.getD 0 0 : Nat), .bl true]) ((r, rowO row') :: L)) (Φ (.tup [.int (row.getD 0 0 : Nat), .bl false]))
def C__law_first (cl : Cl) : Ct := CtOf (S_law_first cl)
def S_law_go (cl : Cl) : Sc := fun ds F R Φ => ∃ (w : Deed) (r l q s : Addr) (row : List Nat) (as : List Bool), ds = [.str w.str, .ref r, .ref l] ∧ F = (r, rowO row) :: logF l q s as [] ∧
  ((w = .pop ∨ w = .replace → 0 < row.length) ∧ row.length < 100000 ∧ (deedT w row).depth ≤ 1000000) ∧
  outL r l q s as R ((deedT w row).ex (.told as) []) (fun a L => Φ (.tup [optD a.2, .bl true]) ((r, rowO a.1) :: L)) (fun L => ∀ d, Φ (.tup [d, .bl false]) L)
def C__law_go (cl : Cl) : Ct := CtOf (S_law_go cl)
def deedOut (R : LL) (Φ : DK) (res : Rs (List Nat × Option Nat)) : Prop := match res with
  | .ok a lg => ∀ r s, Φ (.tup [.ref r, optD a.2, .non, .ref s]) ((r, rowO a.1) :: (s, .lst ((lg.map pr).map qD)) :: R)
  | .no st i j lg => ∀ r s, Φ (.tup [.ref r, .non, qD (i, j), .ref s]) ((r, rowO st) :: (s, .lst ((lg.map pr).map qD)) :: R)
def S_law_deed (cl : Cl) : Sc := fun ds F R Φ => ∃ (w : Deed) (q : Addr) (many : Nat) (as : List Bool), ds = [.str w.str, .int many, .ref q] ∧ F = [(q, .lst (as.map .bl))] ∧
  ((w = .pop ∨ w = .replace → 0 < many) ∧ many < 100000 ∧ (deedT w (List.range many)).depth ≤ 1000000) ∧ deedOut (F ++ R) Φ ((deedT w (List.range many)).ex (.told as) [])
def C__law_deed (cl : Cl) : Ct := CtOf (S_law_deed cl)
/-- deeds with a new item -/
def Deed.more : Deed → Nat
  | .heapify => 0
  | .pop => 0
  | _ => 1
def S_law_honest (cl : Cl) : Sc := fun ds F R Φ => ∃ (w : Deed) (m : Addr) (many : Nat) (ms : List Int), ds = [.str w.str, .ref m] ∧ F = [(m, intsO ms)] ∧
  (ms.length = many + w.more ∧ (w = .pop ∨ w = .replace → 0 < many) ∧ many ≤ 2500) ∧
  ∀ r s, Φ (.tup [.ref r, optD ((deedT w (List.range many)).fin ms).2, .ref s]) ((r, rowO ((deedT w (List.range many)).fin ms).1) :: (s, .lst ((((deedT w (List.range many)).truth ms).map pr).map qD)) :: (F ++ R))
def C__law_honest (cl : Cl) : Ct := CtOf (S_law_honest cl)
end DL

namespace DL
open PySem PySem.Spec PyProof.Rows L2

def t__law_well (cl : Cl) : TS' :=
  tRet' (tLst' (tCons' (tBin' fMul (tCB' fAbs (tCons' (tVar' 0) (tNil'))) (tCB' fInt (tCons' (tBin' fGe (tCB' fAbs (tCons' (tVar' 0) (tNil'))) (tBin' fPow (tC' (.int 10)) (tC' (.int 18)))) (tNil')))) (tCons' (tBin' fMod (tCB' fInt (tCons' (tVar' 0) (tNil'))) (tC' (.int 2147483647))) (tCons' (tC' (.int 0)) (tNil')))))
-- cell
def t__law_draw (cl : Cl) : TS' :=
  tSeq' (tIfS' (tTst' (tBin' fGt (tBin' fIx (tVar' 0) (tC' (.int 0))) (tC' (.int 0)))) (tSeq' (tAsg' (tBin' fMod (tCB' fInt (tCons' (tBin' fIx (tVar' 0) (tC' (.int 0))) (tNil'))) (tVar' 1)) (gName' 3))
  (tSeq' (tAsg' (tBin' fFdiv (tBin' fIx (tVar' 0) (tC' (.int 0))) (tVar' 1)) (gSub' (tVar' 0) (tC' (.int 0))))
  (tRet' (tVar' 3)))) (tNext'))
  (tSeq' (tAsg' (tBin' fAdd (tBin' fIx (tVar' 0) (tC' (.int 2))) (tC' (.int 1))) (gSub' (tVar' 0) (tC' (.int 2))))
  (tSeq' (tAsg' (tBin' fMod (tCB' fInt (tCons' (tBin' fPow (tBin' fAdd (tBin' fAdd (tBin' fIx (tVar' 0) (tC' (.int 1))) (tBin' fMul (tC' (.int 7121)) (tBin' fIx (tVar' 0) (tC' (.int 2))))) (tC' (.int 29))) (tC' (.int 3))) (tNil'))) (tC' (.int 2147483629))) (gName' 2))
  (tSeq' (tAsg' (tBin' fMod (tCB' fInt (tCons' (tBin' fMul (tBin' fAdd (tVar' 2) (tBin' fIx (tVar' 0) (tC' (.int 2)))) (tBin' fAdd (tBin' fFdiv (tVar' 2) (tC' (.int 1013))) (tC' (.int 69621)))) (tNil'))) (tC' (.int 2147483587))) (gName' 2))
  (tRet' (tBin' fMod (tCB' fInt (tCons' (tBin' fMod (tCB' fInt (tCons' (tBin' fMul (tVar' 2) (tBin' fAdd (tBin' fFdiv (tVar' 2) (tC' (.int 2011))) (tC' (.int 48271)))) (tNil'))) (tC' (.int 2147483563))) (tNil'))) (tVar' 1))))))
-- well many number digit
def t__law_pick (cl : Cl) : TS' :=
  tRet' (tBin' fIx (tVar' 1) (tCall' (C__law_draw cl) [] (tCons' (tVar' 0) (tCons' (tCB' fLen (tCons' (tVar' 1) (tNil'))) (tNil')))))
-- well some
def t__law_ask (cl : Cl) : TS' :=
  tSeq' (tDrop' (tLM' fAppend (tBin' fIx (tVar' 0) (tC' (.int 1))) (tCons' (tTup' (tCons' (tVar' 1) (tCons' (tVar' 2) (tNil')))) (tNil'))))
  (tSeq' (tIfS' (tTst' (tBin' fGt (tCB' fLen (tCons' (tBin' fIx (tVar' 0) (tC' (.int 1))) (tNil'))) (tCB' fLen (tCons' (tBin' fIx (tVar' 0) (tC' (.int 0))) (tNil'))))) (tRet' (tC' .non)) (tNext'))
  (tRet' (tBin' fIx (tBin' fIx (tVar' 0) (tC' (.int 0))) (tBin' fSub (tCB' fLen (tCons' (tBin' fIx (tVar' 0) (tC' (.int 1))) (tNil'))) (tC' (.int 1))))))
-- log one other
def t__law_up (cl : Cl) : TS' :=
  tSeq' (tFor' (iRng1' (tCons' (tCB' fLen (tCons' (tVar' 0) (tNil'))) (tNil'))) (gName' 4) (tSeq' (tIfS' (tTst' (tBin' fLe (tVar' 2) (tVar' 1))) (tRet' (tC' (.bl true))) (tNext'))
  (tSeq' (tAsg' (tBin' fSub (tBin' fFdiv (tBin' fAdd (tVar' 2) (tC' (.int 1))) (tC' (.int 2))) (tC' (.int 1))) (gName' 5))
  (tSeq' (tAsg' (tCall' (C__law_ask cl) [] (tCons' (tVar' 3) (tCons' (tBin' fIx (tVar' 0) (tVar' 2)) (tCons' (tBin' fIx (tVar' 0) (tVar' 5)) (tNil'))))) (gName' 6))
  (tSeq' (tIfS' (tTst' (tBin' fIs (tVar' 6) (tC' .non))) (tRet' (tC' (.bl false))) (tNext'))
  (tSeq' (tIfS' (tNot' (tTru' (tVar' 6))) (tRet' (tC' (.bl true))) (tNext'))
  (tSeq' (tAsg' (tTup' (tCons' (tBin' fIx (tVar' 0) (tVar' 5)) (tCons' (tBin' fIx (tVar' 0) (tVar' 2)) (tNil')))) (gTup' 2 (gCons' (gSub' (tVar' 0) (tVar' 2)) (gCons' (gSub' (tVar' 0) (tVar' 5)) (gNil')))))
  (tAsg' (tVar' 5) (gName' 2)))))))))
  (tRet' (tC' (.bl true)))
-- row low at log turn above is_less
def t__law_down (cl : Cl) : TS' :=
  tSeq' (tAsg' (tVar' 1) (gName' 3))
  (tSeq' (tFor' (iRng1' (tCons' (tCB' fLen (tCons' (tVar' 0) (tNil'))) (tNil'))) (gName' 4) (tSeq' (tAsg' (tLc' (iSeq' (tTup' (tCons' (tBin' fAdd (tBin' fMul (tC' (.int 2)) (tVar' 3)) (tC' (.int 1))) (tCons' (tBin' fAdd (tBin' fMul (tC' (.int 2)) (tVar' 3)) (tC' (.int 2))) (tNil'))))) (gName' 8) (tTst' (tBin' fLt (tVar' 8) (tCB' fLen (tCons' (tVar' 0) (tNil'))))) (tVar' 8) [8]) (gName' 5))
  (tSeq' (tIfS' (tTst' (tBin' fEq (tVar' 5) (tLst' (tNil')))) (tBreak') (tNext'))
  (tSeq' (tAsg' (tBin' fIx (tVar' 5) (tC' (.int 0))) (gName' 6))
  (tSeq' (tIfS' (tTst' (tBin' fEq (tCB' fLen (tCons' (tVar' 5) (tNil'))) (tC' (.int 2)))) (tSeq' (tAsg' (tCall' (C__law_ask cl) [] (tCons' (tVar' 2) (tCons' (tBin' fIx (tVar' 0) (tBin' fIx (tVar' 5) (tC' (.int 0)))) (tCons' (tBin' fIx (tVar' 0) (tBin' fIx (tVar' 5) (tC' (.int 1)))) (tNil'))))) (gName' 7))
  (tSeq' (tIfS' (tTst' (tBin' fIs (tVar' 7) (tC' .non))) (tRet' (tC' (.bl false))) (tNext'))
  (tAsg' (tIf' (tTru' (tVar' 7)) (tBin' fIx (tVar' 5) (tC' (.int 0))) (tBin' fIx (tVar' 5) (tC' (.int 1)))) (gName' 6)))) (tNext'))
  (tSeq' (tAsg' (tTup' (tCons' (tBin' fIx (tVar' 0) (tVar' 6)) (tCons' (tBin' fIx (tVar' 0) (tVar' 3)) (tNil')))) (gTup' 2 (gCons' (gSub' (tVar' 0) (tVar' 3)) (gCons' (gSub' (tVar' 0) (tVar' 6)) (gNil')))))
  (tAsg' (tVar' 6) (gName' 3))))))))
  (tRet' (tCall' (C__law_up cl) [] (tCons' (tVar' 0) (tCons' (tVar' 1) (tCons' (tVar' 3) (tCons' (tVar' 2) (tNil'))))))))
-- row low log at turn below after is_less place
def t__law_first (cl : Cl) : TS' :=
  tSeq' (tAsg' (tTup' (tCons' (tBin' fIx (tVar' 0) (tC' (.int 0))) (tCons' (tVar' 1) (tNil')))) (gTup' 2 (gCons' (gName' 3) (gCons' (gSub' (tVar' 0) (tC' (.int 0))) (gNil')))))
  (tRet' (tTup' (tCons' (tVar' 3) (tCons' (tCall' (C__law_down cl) [] (tCons' (tVar' 0) (tCons' (tC' (.int 0)) (tCons' (tVar' 2) (tNil'))))) (tNil')))))
-- row item log first
def t__law_go (cl : Cl) : TS' :=
  tSeq' (tAsg' (tCB' fLen (tCons' (tVar' 1) (tNil'))) (gName' 3))
  (tSeq' (tIfS' (tTst' (tBin' fEq (tVar' 0) (tC' (.str "heapify")))) (tSeq' (tFor' (iRngDn' (tCons' (tBin' fSub (tVar' 3) (tC' (.int 1))) (tCons' (tNeg' (tC' (.int 1))) (tCons' (tNeg' (tC' (.int 1))) (tNil'))))) (gName' 4) (tIfS' (tAnd' (tTst' (tBin' fLt (tBin' fAdd (tBin' fMul (tC' (.int 2)) (tVar' 4)) (tC' (.int 1))) (tVar' 3))) (tNot' (tTru' (tCall' (C__law_down cl) [] (tCons' (tVar' 1) (tCons' (tVar' 4) (tCons' (tVar' 2) (tNil')))))))) (tRet' (tTup' (tCons' (tC' .non) (tCons' (tC' (.bl false)) (tNil'))))) (tNext')))
  (tRet' (tTup' (tCons' (tC' .non) (tCons' (tC' (.bl true)) (tNil')))))) (tNext'))
  (tSeq' (tIfS' (tTst' (tBin' fEq (tVar' 0) (tC' (.str "push")))) (tSeq' (tDrop' (tLM' fAppend (tVar' 1) (tCons' (tVar' 3) (tNil'))))
  (tRet' (tTup' (tCons' (tC' .non) (tCons' (tCall' (C__law_up cl) [] (tCons' (tVar' 1) (tCons' (tC' (.int 0)) (tCons' (tVar' 3) (tCons' (tVar' 2) (tNil')))))) (tNil')))))) (tNext'))
  (tSeq' (tIfS' (tTst' (tBin' fEq (tVar' 0) (tC' (.str "pop")))) (tSeq' (tAsg' (tLM0' fPop (tVar' 1)) (gName' 5))
  (tRet' (tIf' (tTst' (tBin' fEq (tVar' 1) (tLst' (tNil')))) (tTup' (tCons' (tVar' 5) (tCons' (tC' (.bl true)) (tNil')))) (tCall' (C__law_first cl) [] (tCons' (tVar' 1) (tCons' (tVar' 5) (tCons' (tVar' 2) (tNil')))))))) (tNext'))
  (tSeq' (tIfS' (tTst' (tBin' fEq (tVar' 0) (tC' (.str "pushpop")))) (tSeq' (tAsg' (tIf' (tTst' (tBin' fNe (tVar' 1) (tLst' (tNil')))) (tCall' (C__law_ask cl) [] (tCons' (tVar' 2) (tCons' (tBin' fIx (tVar' 1) (tC' (.int 0))) (tCons' (tVar' 3) (tNil'))))) (tC' (.bl false))) (gName' 6))
  (tIfS' (tNot' (tTru' (tVar' 6))) (tRet' (tIf' (tTst' (tBin' fIs (tVar' 6) (tC' .non))) (tTup' (tCons' (tC' .non) (tCons' (tC' (.bl false)) (tNil')))) (tTup' (tCons' (tVar' 3) (tCons' (tC' (.bl true)) (tNil')))))) (tNext'))) (tNext'))
  (tRet' (tCall' (C__law_first cl) [] (tCons' (tVar' 1) (tCons' (tVar' 3) (tCons' (tVar' 2) (tNil'))))))))))
-- word row log many at last is_less
def t__law_deed (cl : Cl) : TS' :=
  tSeq' (tPar' 3 4 (tCons' (tLstRg1' (tVar' 1)) (tCons' (tLst' (tCons' (tVar' 2) (tCons' (tLst' (tNil')) (tNil')))) (tNil'))))
  (tSeq' (tAsg' (tCall' (C__law_go cl) [] (tCons' (tVar' 0) (tCons' (tVar' 3) (tCons' (tVar' 4) (tNil'))))) (gTup' 2 (gCons' (gName' 5) (gCons' (gName' 6) (gNil')))))
  (tSeq' (tIfS' (tTru' (tVar' 6)) (tRet' (tTup' (tCons' (tVar' 3) (tCons' (tVar' 5) (tCons' (tC' .non) (tCons' (tBin' fIx (tVar' 4) (tC' (.int 1))) (tNil'))))))) (tNext'))
  (tRet' (tTup' (tCons' (tVar' 3) (tCons' (tC' .non) (tCons' (tBin' fIx (tBin' fIx (tVar' 4) (tC' (.int 1))) (tNeg' (tC' (.int 1)))) (tCons' (tSl' (tBin' fIx (tVar' 4) (tC' (.int 1))) (tNoPart') (tPart' (tNeg' (tC' (.int 1))))) (tNil')))))))))
-- word many answers row log given is_done
def t__law_honest (cl : Cl) : TS' :=
  tSeq' (tPar' 3 4 (tCons' (tBin' fSub (tCB' fLen (tCons' (tVar' 1) (tNil'))) (tCB' fInt (tCons' (tBin' fIn (tVar' 0) (tTup' (tCons' (tC' (.str "push")) (tCons' (tC' (.str "replace")) (tCons' (tC' (.str "pushpop")) (tNil')))))) (tNil')))) (tCons' (tLst' (tNil')) (tNil'))))
  (tSeq' (tFor' (iRng1' (tCons' (tBin' fAdd (tBin' fMul (tC' (.int 40)) (tCB' fLen (tCons' (tVar' 1) (tNil')))) (tC' (.int 5))) (tNil'))) (gName' 2) (tSeq' (tAsg' (tCall' (C__law_deed cl) [] (tCons' (tVar' 0) (tCons' (tVar' 3) (tCons' (tVar' 4) (tNil'))))) (gTup' 4 (gCons' (gName' 5) (gCons' (gName' 6) (gCons' (gName' 7) (gCons' (gName' 8) (gNil')))))))
  (tSeq' (tIfS' (tTst' (tBin' fIs (tVar' 7) (tC' .non))) (tRet' (tTup' (tCons' (tVar' 5) (tCons' (tVar' 6) (tCons' (tVar' 8) (tNil')))))) (tNext'))
  (tDrop' (tLM' fAppend (tVar' 4) (tCons' (tBin' fLt (tBin' fIx (tVar' 1) (tBin' fIx (tVar' 7) (tC' (.int 0)))) (tBin' fIx (tVar' 1) (tBin' fIx (tVar' 7) (tC' (.int 1))))) (tNil')))))))
  (tRet' (tTup' (tCons' (tLst' (tNil')) (tCons' (tC' .non) (tCons' (tLst' (tNil')) (tNil')))))))
-- word marks turn many answers row given question log
end DL

namespace DL
open PySem PySem.Spec PyProof.Rows L2
local macro_rules | `(tactic| walk_at "has") => `(tactic| first | exact Has.here | (apply Has.there; walk_at "has"))
local macro_rules | `(tactic| walk_at "hasl") => `(tactic| first | (refine Or.inl ?_; walk_at "has") | (refine Or.inr ?_; walk_at "has"))
local macro_rules | `(tactic| walk_at "sel") => `(tactic| first | exact Sel.here | (apply Sel.there; walk_at "sel"))
local macro_rules | `(tactic| walk_at "chg") => `(tactic| first | exact Chg.here | (apply Chg.there; walk_at "chg"))
local macro_rules | `(tactic| walk_at "pull") => `(tactic| first | exact Pull.nil | (apply Pull.cons; (walk_at "sel"); exact rfl; walk_at "pull"))
local macro_rules | `(tactic| walk_at "cov") => `(tactic| first | exact Cov.refl | (apply Cov.take; (walk_at "sel"); (first | exact rfl | assumption); walk_at "cov") | (apply Cov.take; (walk_at "sel"); rotate_left; walk_at "cov") | (refine Cov.drop ?_; walk_at "cov"))
local macro_rules | `(tactic| walk_at "sub") => `(tactic| first | exact Sub.nil | (refine Sub.same (by first | rfl | assumption) ?_; walk_at "sub") | (refine Sub.any ?_; walk_at "sub") | (refine Sub.same ?_ ?_; rotate_left; walk_at "sub"))
local macro_rules | `(tactic| walk_at "side") => `(tactic| first | assumption | (with_reducible rfl) | omega | (refine mulOk_r ?_ ?_ <;> first | omega | decide) | (refine mulOk_l ?_ ?_ <;> first | omega | decide) | (refine divOk_of ?_ ?_ <;> first | omega | decide) | (refine ⟨?_, ?_⟩ <;> walk_at "side") | rfl | (simp <;> omega) | decide)
local macro_rules | `(tactic| walk_at "kn") => `(tactic| first | assumption | decide | rfl)
local macro_rules | `(tactic| walk_at "br") => `(tactic| first | (with_reducible first | refine Br.t ?_ | refine Br.f ?_) | ((with_reducible refine Br.dec_t ?_ ?_); focus walk_at "kn") | ((with_reducible refine Br.dec_f ?_ ?_); focus walk_at "kn") | ((with_reducible refine Br.ndec_t ?_ ?_); focus walk_at "kn") | ((with_reducible refine Br.ndec_f ?_ ?_); focus walk_at "kn") | (with_reducible first | (refine Br.dec ?_ ?_ <;> intro _) | (refine Br.ndec ?_ ?_ <;> intro _)) | refine Br.t ?_ | refine Br.f ?_ | (with_reducible refine Br.mk ?_ ?_ <;> intro _))
local macro_rules | `(tactic| walk_at "st") => `(tactic| ((try (conv => whnf)); first
  | walk_at "br"
  | with_reducible (intro _)
  | (refine ⟨_, (by walk_at "has" : Has _ _ _), ?_⟩)
  | (refine ⟨_, (by walk_at "hasl" : HasL _ _ _), ?_⟩)
  | (refine ⟨_, _, (by walk_at "chg" : Chg _ _ _ _ _), ?_⟩)
  | (refine ⟨_, _, _, (by walk_at "chg" : Chg _ _ _ _ _), (by first | rfl | assumption : ixN _ _ = some _), ?_⟩)
  | (refine ⟨_, _, (by walk_at "sel" : Sel _ _ _ _), ?_⟩)
  | (refine ⟨_, _, _, (by walk_at "has" : Has _ _ _), (by assumption), ?_⟩)
  | (refine ⟨_, (by first | rfl | assumption : atI _ _ = some _), ?_⟩)
  | (refine And.intro (by walk_at "side") ?_)))
local macro_rules | `(tactic| walk_at "st2") => `(tactic| first | walk_at "st" | ((try (conv => whnf)); with_reducible refine And.intro ?_ ?_; rotate_left))
local macro_rules | `(tactic| walk_at "go") => `(tactic| first | ((try (conv => whnf)); walk_at "br" <;> walk_at "go") | (walk_at "st"; walk_at "go") | (conv => whnf) | skip)
theorem WellOk.le {b n N M : Int} (h : WellOk b n N) (e : N ≤ M) : WellOk b n M := ⟨h.1, h.2.1, h.2.2.1, Int.le_trans h.2.2.2 e⟩
theorem rd_law_well (cl : Cl) (ds : List D) (F R : LL) (Φ : DK) (h : S_law_well cl ds F R Φ) : t__law_well cl (endD Φ) (startD 1 ds) (F ++ R) := by
  obtain ⟨c, rfl, rfl, h⟩ := h
  walk_at "go"
  refine Ret.mk _ .refl (h _ _ _ (Int.emod_nonneg _ (by decide)) (Int.emod_lt_of_pos _ (by decide)))
theorem rd_law_draw (cl : Cl) (ds : List D) (F R : LL) (Φ : DK) (h : S_law_draw cl ds F R Φ) : t__law_draw cl (endD Φ) (startD 4 ds) (F ++ R) := by
  obtain ⟨p, a, b, n, z, N, rfl, rfl, ⟨h1, h2, ⟨w1, w2, w3, w4⟩, hN⟩, h⟩ := h
  walk_at "go"
  · exact Ret.mk _ .refl (h _ _ _ (Int.emod_nonneg _ (by omega)) (Int.emod_lt_of_pos _ h1) ⟨w1, w2, w3, by omega⟩)
  · exact Ret.mk _ .refl (h _ _ _ (Int.emod_nonneg _ (by omega)) (Int.emod_lt_of_pos _ h1) ⟨w1, w2, by omega, by omega⟩)
theorem call_draw {cl : Cl} {L R : LL} {Φ : DK} {p : Addr} {a b n z : Int} (N : Int) (hp : Pull L [(p, wellO a b n)] R) (h1 : 0 < z) (h2 : DivOk z) (hw : WellOk b n N) (hN : N ≤ 1000000000) (k : ∀ d a' n' : Int, 0 ≤ d → d < z → WellOk b n' (N + 1) → Φ (.int d) ([(p, wellO a' b n')] ++ R)) : CtOf (S_law_draw cl) [.ref p, .int z] L Φ :=
  ⟨_, _, hp, p, a, b, n, z, N, rfl, rfl, ⟨h1, h2, hw, hN⟩, k⟩
theorem rd_law_pick (cl : Cl) (ds : List D) (F R : LL) (Φ : DK) (h : S_law_pick cl ds F R Φ) : t__law_pick cl (endD Φ) (startD 2 ds) (F ++ R) := by
  obtain ⟨p, q, a, b, n, N, xs, rfl, rfl, ⟨h1, h2, hw, hN⟩, h⟩ := h
  walk_at "go"
  refine call_draw N (by walk_at "pull") (by omega) (divOk_of (by omega) (by omega)) hw hN ?_
  intro d a' n' g1 g2 hw'
  walk_at "go"
  have g3 : d.toNat < xs.length := by omega
  have e : xs[d.toNat]? = some xs[d.toNat] := List.getElem?_eq_getElem g3
  refine ⟨_, atI_of d.toNat (by omega) e, ?_⟩
  walk_at "go"
  exact Ret.mk _ .refl (h _ _ _ _ e hw')
theorem call_pick {cl : Cl} {L R : LL} {Φ : DK} {p q : Addr} {a b n : Int} (N : Int) (xs : List D) (hp : Pull L [(p, wellO a b n), (q, .lst xs)] R) (h1 : 0 < xs.length) (h2 : xs.length ≤ 1000) (hw : WellOk b n N) (hN : N ≤ 1000000000)
    (k : ∀ (i : Nat) x a' n', xs[i]? = some x → WellOk b n' (N + 1) → Φ x ([(p, wellO a' b n'), (q, .lst xs)] ++ R)) : CtOf (S_law_pick cl) [.ref p, .ref q] L Φ :=
  ⟨_, _, hp, p, q, a, b, n, N, xs, rfl, rfl, ⟨h1, h2, hw, hN⟩, k⟩
theorem rd_law_ask (cl : Cl) (ds : List D) (F R : LL) (Φ : DK) (h : S_law_ask cl ds F R Φ) : t__law_ask cl (endD Φ) (startD 3 ds) (F ++ R) := by
  obtain ⟨l, q, s, as, asked, i, j, rfl, rfl, h1, h⟩ := h
  walk_at "go"
  · rename_i z
    have e : as[asked.length]? = none := by
      rw [List.getElem?_eq_none_iff]
      simp at z
      omega
    rw [e] at h
    refine Ret.mk _ ?_ h
    walk_at "cov"
    simp [qD]
  · rename_i z
    have g : asked.length < as.length := by
      simp at z
      omega
    have e : as[asked.length]? = some as[asked.length] := List.getElem?_eq_getElem g
    rw [e] at h
    refine ⟨_, atI_of asked.length (by simp) (by rw [List.getElem?_map, e]; rfl), ?_⟩
    walk_at "go"
    refine Ret.mk _ ?_ h
    walk_at "cov"
    simp [qD]
theorem call_ask {cl : Cl} {L R : LL} {Φ : DK} {l q s : Addr} {as : List Bool} {asked : List (Nat × Nat)} {a b : Int} (i j : Nat) (hp : Pull L (logF l q s as asked) R) (ei : a = i) (ej : b = j) (h1 : asked.length ≤ 1000000)
    (k : Φ (optB as[asked.length]?) (logF l q s as (asked ++ [(i, j)]) ++ R)) : CtOf (S_law_ask cl) [.ref l, .int a, .int b] L Φ := by
  subst ei ej
  exact ⟨_, _, hp, l, q, s, as, asked, i, j, rfl, rfl, h1, k⟩
theorem rd_law_up (cl : Cl) (ds : List D) (F R : LL) (Φ : DK) (h : S_law_up cl ds F R Φ) : t__law_up cl (endD Φ) (startD 7 ds) (F ++ R) := by
  obtain ⟨r, l, q, s, row0, low, p0, as, lg0, rfl, rfl, ⟨h1, hz, h4⟩, h⟩ := h
  have hz' : ((row0.map dn).length : Int) ≤ 100000 := by simp; omega
  walk_at "go"
  generalize he : (riseT row0.length row0 p0 low).ex (.told as) lg0 = res at h
  refine ForI.inv (α := List Nat × Nat × Log) (fun i x => [some (.ref r), some (.int low), some (.int x.2.1), some (.ref l), none, none, none]) (fun i x => (r, rowO x.1) :: logF l q s as (x.2.2.map pr) ++ R)
    (fun i x => x.1.length = row0.length ∧ x.2.1 < x.1.length ∧ x.2.1 + i ≤ p0 ∧ x.2.2.length + (riseT (row0.length - i) x.1 x.2.1 low).depth ≤ 1000000 ∧ (riseT (row0.length - i) x.1 x.2.1 low).ex (.told as) x.2.2 = res) (row0, p0, lg0) (by walk_at "sub") .refl ⟨rfl, h1, Nat.le_refl _, h4, he⟩ ?_ ?_
  · rintro i ⟨row, p, lg⟩ d hd ⟨g1, g2, g3, g4, g5⟩
    obtain ⟨hi, rfl⟩ := rgD_get hd
    dsimp only at g1 g2 g3 g4 g5
    have hi' : i < row0.length := by simpa using hi
    obtain ⟨f, hf⟩ : ∃ f, row0.length - i = f + 1 := ⟨row0.length - i - 1, by omega⟩
    have hf' : row0.length - (i + 1) = f := by omega
    rw [hf] at g4 g5
    unfold riseT at g4 g5
    refine ⟨trivial, ?_⟩
    dsimp only
    walk_at "go"
    · rename_i hp
      rw [if_neg (by omega)] at g5
      have e1 : Rs.ok row lg = res := g5
      subst e1
      refine Ret.mk _ ?_ h
      walk_at "cov"
    · rename_i hp
      rw [if_pos (by omega)] at g4 g5
      rw [Tr.ex_ask] at g5
      refine ⟨_, atI_dn p rfl (by omega), ?_⟩
      walk_at "go"
      refine ⟨_, atI_dn ((p - 1) / 2) (by omega) (by omega), ?_⟩
      walk_at "go"
      refine call_ask _ _ (by walk_at "pull") rfl rfl (by rw [List.length_map]; omega) ?_
      rw [List.length_map]
      cases hb : as[lg.length]? with
      | none =>
        have hb' : (AK.told as).ans lg.length (row.getD p 0) (row.getD ((p - 1) / 2) 0) = none := hb
        rw [hb'] at g5
        subst g5
        walk_at "go"
        refine Ret.mk _ ?_ h
        walk_at "cov"
      | some b =>
        have hb' : (AK.told as).ans lg.length (row.getD p 0) (row.getD ((p - 1) / 2) 0) = some b := hb
        rw [hb'] at g5
        have g6 := Tr.depth_pos (b := b) g4
        cases b with
        | false =>
          walk_at "go"
          have e1 : Rs.ok row (lg ++ [(row.getD p 0, row.getD ((p - 1) / 2) 0, false)]) = res := g5
          subst e1
          refine Ret.mk _ ?_ h
          walk_at "cov"
          simp [pr]
        | true =>
          simp only [if_true] at g5 g6
          walk_at "go"
          refine ⟨_, atI_dn ((p - 1) / 2) (by omega) (by omega), ?_⟩
          walk_at "go"
          refine ⟨_, atI_dn p rfl (by omega), ?_⟩
          walk_at "go"
          refine ⟨_, _, p, by walk_at "chg", ixN_of p rfl (by simpa using g2), ?_⟩
          walk_at "go"
          refine ⟨_, _, (p - 1) / 2, by walk_at "chg", ixN_of ((p - 1) / 2) (by omega) (by simp; omega), ?_⟩
          walk_at "go"
          refine Nx1.mk (swapN row p ((p - 1) / 2), (p - 1) / 2, lg ++ [(row.getD p 0, row.getD ((p - 1) / 2) 0, true)]) ?_ ?_ ⟨by rw [swapN_length]; exact g1, by show (p - 1) / 2 < (swapN row p ((p - 1) / 2)).length; rw [swapN_length]; omega, by show (p - 1) / 2 + (i + 1) ≤ p0; omega, by rw [hf']; show (lg ++ _).length + _ ≤ _; rw [List.length_append]; exact g6, by rw [hf']; exact g5⟩
          · walk_at "sub"
            simp
            omega
          · walk_at "cov"
            all_goals simp [swapN, dn, List.map_set, pr, qD]
  · rintro ⟨row, p, lg⟩ ⟨g1, g2, g3, g4, g5⟩
    dsimp only at g1 g2 g3 g4 g5
    rw [rgD_length] at g3
    simp at g3
    omega
end DL

namespace DL
open PySem PySem.Spec PyProof.Rows L2
local macro_rules | `(tactic| walk_at "has") => `(tactic| first | exact Has.here | (apply Has.there; walk_at "has"))
local macro_rules | `(tactic| walk_at "hasl") => `(tactic| first | (refine Or.inl ?_; walk_at "has") | (refine Or.inr ?_; walk_at "has"))
local macro_rules | `(tactic| walk_at "sel") => `(tactic| first | exact Sel.here | (apply Sel.there; walk_at "sel"))
local macro_rules | `(tactic| walk_at "chg") => `(tactic| first | exact Chg.here | (apply Chg.there; walk_at "chg"))
local macro_rules | `(tactic| walk_at "pull") => `(tactic| first | exact Pull.nil | (apply Pull.cons; (walk_at "sel"); exact rfl; walk_at "pull"))
local macro_rules | `(tactic| walk_at "cov") => `(tactic| first | exact Cov.refl | (apply Cov.take; (walk_at "sel"); (first | exact rfl | assumption); walk_at "cov") | (apply Cov.take; (walk_at "sel"); rotate_left; walk_at "cov") | (refine Cov.drop ?_; walk_at "cov"))
local macro_rules | `(tactic| walk_at "sub") => `(tactic| first | exact Sub.nil | (refine Sub.same (by first | rfl | assumption) ?_; walk_at "sub") | (refine Sub.any ?_; walk_at "sub") | (refine Sub.same ?_ ?_; rotate_left; walk_at "sub"))
local macro_rules | `(tactic| walk_at "side") => `(tactic| first | assumption | (with_reducible rfl) | omega | (refine mulOk_r ?_ ?_ <;> first | omega | decide) | (refine mulOk_l ?_ ?_ <;> first | omega | decide) | (refine divOk_of ?_ ?_ <;> first | omega | decide) | (refine ⟨?_, ?_⟩ <;> walk_at "side") | rfl | (simp <;> omega) | decide)
local macro_rules | `(tactic| walk_at "kn") => `(tactic| first | assumption | decide | rfl)
local macro_rules | `(tactic| walk_at "br") => `(tactic| first | (with_reducible first | refine Br.t ?_ | refine Br.f ?_) | ((with_reducible refine Br.dec_t ?_ ?_); focus walk_at "kn") | ((with_reducible refine Br.dec_f ?_ ?_); focus walk_at "kn") | ((with_reducible refine Br.ndec_t ?_ ?_); focus walk_at "kn") | ((with_reducible refine Br.ndec_f ?_ ?_); focus walk_at "kn") | (with_reducible first | (refine Br.dec ?_ ?_ <;> intro _) | (refine Br.ndec ?_ ?_ <;> intro _)) | refine Br.t ?_ | refine Br.f ?_ | (with_reducible refine Br.mk ?_ ?_ <;> intro _))
local macro_rules | `(tactic| walk_at "st") => `(tactic| ((try (conv => whnf)); first
  | walk_at "br"
  | with_reducible (intro _)
  | (refine ⟨_, (by walk_at "has" : Has _ _ _), ?_⟩)
  | (refine ⟨_, (by walk_at "hasl" : HasL _ _ _), ?_⟩)
  | (refine ⟨_, _, (by walk_at "chg" : Chg _ _ _ _ _), ?_⟩)
  | (refine ⟨_, _, _, (by walk_at "chg" : Chg _ _ _ _ _), (by first | rfl | assumption : ixN _ _ = some _), ?_⟩)
  | (refine ⟨_, _, (by walk_at "sel" : Sel _ _ _ _), ?_⟩)
  | (refine ⟨_, _, _, (by walk_at "has" : Has _ _ _), (by assumption), ?_⟩)
  | (refine ⟨_, (by first | rfl | assumption : atI _ _ = some _), ?_⟩)
  | (refine And.intro (by walk_at "side") ?_)))
local macro_rules | `(tactic| walk_at "st2") => `(tactic| first | walk_at "st" | ((try (conv => whnf)); with_reducible refine And.intro ?_ ?_; rotate_left))
local macro_rules | `(tactic| walk_at "go") => `(tactic| first | ((try (conv => whnf)); walk_at "br" <;> walk_at "go") | (walk_at "st"; walk_at "go") | (conv => whnf) | skip)
theorem call_up {cl : Cl} {L R : LL} {Φ : DK} {r l q s : Addr} {row : List Nat} {as : List Bool} {lg : Log} {a b : Int} (low p : Nat) (hp : Pull L ((r, rowO row) :: logF l q s as (lg.map pr)) R) (ei : a = low) (ej : b = p) (h1 : p < row.length) (h2 : row.length ≤ 100000)
    (h4 : lg.length + (riseT row.length row p low).depth ≤ 1000000) (o : outL r l q s as R ((riseT row.length row p low).ex (.told as) lg) (fun row' L => Φ (.bl true) ((r, rowO row') :: L)) (Φ (.bl false))) : CtOf (S_law_up cl) [.ref r, .int a, .int b, .ref l] L Φ := by
  subst ei ej
  exact ⟨_, _, hp, r, l, q, s, row, low, p, as, lg, rfl, rfl, ⟨h1, h2, h4⟩, o⟩
theorem outL.imp {α : Type} {r l q s : Addr} {as : List Bool} {R R' : LL} {res : Rs α} {Φ Φ' : α → LL → Prop} {Ψ Ψ' : LL → Prop} (o : outL r l q s as R res Φ Ψ) (f : ∀ a lg, res = .ok a lg → Φ a (logF l q s as (lg.map pr) ++ R) → Φ' a (logF l q s as (lg.map pr) ++ R'))
    (g : ∀ st i j lg, res = .no st i j lg → Ψ ((r, rowO st) :: (logF l q s as (lg.map pr ++ [(i, j)]) ++ R)) → Ψ' ((r, rowO st) :: (logF l q s as (lg.map pr ++ [(i, j)]) ++ R'))) : outL r l q s as R' res Φ' Ψ' := by
  cases res with
  | ok a l => exact f a l rfl o
  | no st i j lg => exact g st i j lg rfl o
theorem rd_law_down (cl : Cl) (ds : List D) (F R : LL) (Φ : DK) (h : S_law_down cl ds F R Φ) : t__law_down cl (endD Φ) (startD 9 ds) (F ++ R) := by
  obtain ⟨r, l, q, s, row0, p0, as, lg0, rfl, rfl, ⟨h1, hz, h4⟩, h⟩ := h
  have hz' : ((row0.map dn).length : Int) ≤ 100000 := by simp; omega
  unfold sinkFrom at h h4
  walk_at "go"
  generalize he : (sinkT row0.length row0 p0 p0).ex (.told as) lg0 = res at h
  refine ForI.inv (α := List Nat × Nat × Log) (fun i x => [some (.ref r), some (.int p0), some (.ref l), some (.int x.2.1), none, none, none, none, none]) (fun i x => (r, rowO x.1) :: logF l q s as (x.2.2.map pr) ++ R)
    (fun i x => x.1.length = row0.length ∧ x.2.1 < x.1.length ∧ i ≤ row0.length ∧ x.2.2.length + (sinkT (row0.length - i) x.1 x.2.1 p0).depth ≤ 1000000 ∧ (sinkT (row0.length - i) x.1 x.2.1 p0).ex (.told as) x.2.2 = res) (row0, p0, lg0) (by walk_at "sub") .refl ⟨rfl, h1, Nat.zero_le _, h4, he⟩ ?_ ?_
  · rintro i ⟨row, p, lg⟩ d hd ⟨g1, g2, g3, g4, g5⟩
    obtain ⟨hi, rfl⟩ := rgD_get hd
    dsimp only at g1 g2 g3 g4 g5
    have hi' : i < row0.length := by simpa using hi
    obtain ⟨f, hf⟩ : ∃ f, row0.length - i = f + 1 := ⟨row0.length - i - 1, by omega⟩
    have hf' : row0.length - (i + 1) = f := by omega
    rw [hf] at g4 g5
    have hlen : ((row.map dn).length : Int) = row0.length := by simp [g1]
    refine ⟨trivial, ?_⟩
    dsimp only
    walk_at "go"
    refine LcI.sel (xs := [2 * p + 1, 2 * p + 2]) (toD := dn) (out := fun x => if x < row.length then some (dn x) else none) (by simp [dn]) (fun _ => trivial) (by simp) ?_ ?_
    · intro x hx acc Ψ Z hk
      walk_at "go"
      · rename_i z
        have z' : x < row.length := by simp at z; omega
        have := hk _ .refl
        rw [if_pos z'] at this
        exact this
      · rename_i z
        have z' : ¬ x < row.length := by simp at z; omega
        have := hk _ .refl
        rw [if_neg z'] at this
        exact this
    unfold sinkT at g4 g5
    by_cases c1 : 2 * p + 1 < row.length
    · rw [if_pos c1] at g4 g5
      by_cases c2 : 2 * p + 2 < row.length
      · rw [if_pos c2] at g4 g5
        rw [Tr.ex_ask] at g5
        have ef : [2 * p + 1, 2 * p + 2].filterMap (fun x => if x < row.length then some (dn x) else none) = [2 * p + 1, 2 * p + 2].map dn := by simp [c1, c2]
        rw [ef]
        have ne : ∀ (a : Nat) (x : List Nat), ¬ (a :: x = []) := fun a x z => by cases z
        have ne1 := ne (2 * p + 1) [2 * p + 2]
        have ne2 := ne (2 * p + 1) []
        have ne3 : ¬ (((([2 * p + 1] : List Nat).map dn).length : Int) = 2) := by simp
        walk_at "go"
        refine deepE.isNil (by walk_at "hasl") (by walk_at "hasl") ?_
        walk_at "go"
        refine ⟨_, atI_dn (2 * p + 1) rfl c1, ?_⟩
        walk_at "go"
        refine ⟨_, atI_dn (2 * p + 2) rfl c2, ?_⟩
        walk_at "go"
        refine call_ask _ _ (by walk_at "pull") rfl rfl (by rw [List.length_map]; omega) ?_
        rw [List.length_map]
        cases hb : as[lg.length]? with
        | none =>
          have hb' : (AK.told as).ans lg.length (row.getD (2 * p + 1) 0) (row.getD (2 * p + 2) 0) = none := hb
          rw [hb'] at g5
          subst g5
          walk_at "go"
          refine Ret.mk _ ?_ h
          walk_at "cov"
        | some b =>
          have hb' : (AK.told as).ans lg.length (row.getD (2 * p + 1) 0) (row.getD (2 * p + 2) 0) = some b := hb
          rw [hb'] at g5
          have g6 := Tr.depth_pos (b := b) g4
          cases b with
          | false =>
            simp only [Bool.false_eq_true, if_false] at g5 g6
            walk_at "go"
            refine ⟨_, atI_dn (2 * p + 2) rfl c2, ?_⟩
            walk_at "go"
            refine ⟨_, atI_dn p rfl g2, ?_⟩
            walk_at "go"
            refine ⟨_, _, p, by walk_at "chg", ixN_of p rfl (by simpa using g2), ?_⟩
            walk_at "go"
            refine ⟨_, _, 2 * p + 2, by walk_at "chg", ixN_of (2 * p + 2) rfl (by simpa using c2), ?_⟩
            walk_at "go"
            refine Nx1.mk (swapN row p (2 * p + 2), 2 * p + 2, lg ++ [(row.getD (2 * p + 1) 0, row.getD (2 * p + 2) 0, false)]) ?_ ?_ ⟨by rw [swapN_length]; exact g1, by show 2 * p + 2 < (swapN row p (2 * p + 2)).length; rw [swapN_length]; exact c2, hi', by rw [hf']; show (lg ++ _).length + _ ≤ _; rw [List.length_append]; exact g6, by rw [hf']; exact g5⟩
            · walk_at "sub"
            · walk_at "cov"
              all_goals simp [swapN, dn, List.map_set, pr, qD]
          | true =>
            simp only [if_true] at g5 g6
            walk_at "go"
            refine ⟨_, atI_dn (2 * p + 1) rfl c1, ?_⟩
            walk_at "go"
            refine ⟨_, atI_dn p rfl g2, ?_⟩
            walk_at "go"
            refine ⟨_, _, p, by walk_at "chg", ixN_of p rfl (by simpa using g2), ?_⟩
            walk_at "go"
            refine ⟨_, _, 2 * p + 1, by walk_at "chg", ixN_of (2 * p + 1) rfl (by simpa using c1), ?_⟩
            walk_at "go"
            refine Nx1.mk (swapN row p (2 * p + 1), 2 * p + 1, lg ++ [(row.getD (2 * p + 1) 0, row.getD (2 * p + 2) 0, true)]) ?_ ?_ ⟨by rw [swapN_length]; exact g1, by show 2 * p + 1 < (swapN row p (2 * p + 1)).length; rw [swapN_length]; exact c1, hi', by rw [hf']; show (lg ++ _).length + _ ≤ _; rw [List.length_append]; exact g6, by rw [hf']; exact g5⟩
            · walk_at "sub"
            · walk_at "cov"
              all_goals simp [swapN, dn, List.map_set, pr, qD]
      · rw [if_neg c2] at g4 g5
        have ef : [2 * p + 1, 2 * p + 2].filterMap (fun x => if x < row.length then some (dn x) else none) = [2 * p + 1].map dn := by simp [c1, c2]
        rw [ef]
        have ne : ∀ (a : Nat) (x : List Nat), ¬ (a :: x = []) := fun a x z => by cases z
        have ne1 := ne (2 * p + 1) [2 * p + 2]
        have ne2 := ne (2 * p + 1) []
        have ne3 : ¬ (((([2 * p + 1] : List Nat).map dn).length : Int) = 2) := by simp
        walk_at "go"
        refine deepE.isNil (by walk_at "hasl") (by walk_at "hasl") ?_
        walk_at "go"
        refine ⟨_, atI_dn (2 * p + 1) rfl c1, ?_⟩
        walk_at "go"
        refine ⟨_, atI_dn p rfl g2, ?_⟩
        walk_at "go"
        refine ⟨_, _, p, by walk_at "chg", ixN_of p rfl (by simpa using g2), ?_⟩
        walk_at "go"
        refine ⟨_, _, 2 * p + 1, by walk_at "chg", ixN_of (2 * p + 1) rfl (by simpa using c1), ?_⟩
        walk_at "go"
        refine Nx1.mk (swapN row p (2 * p + 1), 2 * p + 1, lg) ?_ ?_ ⟨by rw [swapN_length]; exact g1, by show 2 * p + 1 < (swapN row p (2 * p + 1)).length; rw [swapN_length]; exact c1, hi', by rw [hf']; exact g4, by rw [hf']; exact g5⟩
        · walk_at "sub"
        · walk_at "cov"
          all_goals simp [swapN, dn, List.map_set]
    · rw [if_neg c1] at g4 g5
      have c2 : ¬ 2 * p + 2 < row.length := by omega
      have ef : [2 * p + 1, 2 * p + 2].filterMap (fun x => if x < row.length then some (dn x) else none) = ([] : List Nat).map dn := by simp [c1, c2]
      rw [ef]
      walk_at "go"
      refine deepE.isNil (xs := []) (by walk_at "hasl") (by walk_at "hasl") ?_
      walk_at "go"
      subst g5
      refine call_up p0 p (by walk_at "pull") rfl rfl g2 (by omega) g4 ?_
      refine h.imp (fun row' lg' _ h => ?_) (fun st i j lg' _ h => ?_)
      · refine Ret.mk _ ?_ h
        walk_at "cov"
      · refine Ret.mk _ ?_ h
        walk_at "cov"
  · rintro ⟨row, p, lg⟩ ⟨g1, g2, g3, g4, g5⟩
    dsimp only at g1 g2 g3 g4 g5
    have el : (rgD 0 ((row0.map dn).length : Nat)).length = row0.length := by
      rw [rgD_length]
      simp
    rw [el, Nat.sub_self] at g4 g5
    refine ⟨trivial, ?_⟩
    dsimp only
    walk_at "go"
    have e : sinkT 0 row p p0 = riseT row.length row p p0 := rfl
    rw [e] at g4 g5
    subst g5
    refine call_up p0 p (by walk_at "pull") rfl rfl g2 (by omega) g4 ?_
    refine h.imp (fun row' lg' _ h => ?_) (fun st i j lg' _ h => ?_)
    · refine Ret.mk _ ?_ h
      walk_at "cov"
    · refine Ret.mk _ ?_ h
      walk_at "cov"
end DL

namespace DL
open PySem PySem.Spec PyProof.Rows L2
local macro_rules | `(tactic| walk_at "has") => `(tactic| first | exact Has.here | (apply Has.there; walk_at "has"))
local macro_rules | `(tactic| walk_at "hasl") => `(tactic| first | (refine Or.inl ?_; walk_at "has") | (refine Or.inr ?_; walk_at "has"))
local macro_rules | `(tactic| walk_at "sel") => `(tactic| first | exact Sel.here | (apply Sel.there; walk_at "sel"))
local macro_rules | `(tactic| walk_at "chg") => `(tactic| first | exact Chg.here | (apply Chg.there; walk_at "chg"))
local macro_rules | `(tactic| walk_at "pull") => `(tactic| first | exact Pull.nil | (apply Pull.cons; (walk_at "sel"); exact rfl; walk_at "pull"))
local macro_rules | `(tactic| walk_at "cov") => `(tactic| first | exact Cov.refl | (apply Cov.take; (walk_at "sel"); (first | exact rfl | assumption); walk_at "cov") | (apply Cov.take; (walk_at "sel"); rotate_left; walk_at "cov") | (refine Cov.drop ?_; walk_at "cov"))
local macro_rules | `(tactic| walk_at "sub") => `(tactic| first | exact Sub.nil | (refine Sub.same (by first | rfl | assumption) ?_; walk_at "sub") | (refine Sub.any ?_; walk_at "sub") | (refine Sub.same ?_ ?_; rotate_left; walk_at "sub"))
local macro_rules | `(tactic| walk_at "side") => `(tactic| first | assumption | (with_reducible rfl) | omega | (refine mulOk_r ?_ ?_ <;> first | omega | decide) | (refine mulOk_l ?_ ?_ <;> first | omega | decide) | (refine divOk_of ?_ ?_ <;> first | omega | decide) | (refine ⟨?_, ?_⟩ <;> walk_at "side") | rfl | (simp <;> omega) | decide)
local macro_rules | `(tactic| walk_at "kn") => `(tactic| first | assumption | decide | rfl)
local macro_rules | `(tactic| walk_at "br") => `(tactic| first | (with_reducible first | refine Br.t ?_ | refine Br.f ?_) | ((with_reducible refine Br.dec_t ?_ ?_); focus walk_at "kn") | ((with_reducible refine Br.dec_f ?_ ?_); focus walk_at "kn") | ((with_reducible refine Br.ndec_t ?_ ?_); focus walk_at "kn") | ((with_reducible refine Br.ndec_f ?_ ?_); focus walk_at "kn") | (with_reducible first | (refine Br.dec ?_ ?_ <;> intro _) | (refine Br.ndec ?_ ?_ <;> intro _)) | refine Br.t ?_ | refine Br.f ?_ | (with_reducible refine Br.mk ?_ ?_ <;> intro _))
local macro_rules | `(tactic| walk_at "st") => `(tactic| ((try (conv => whnf)); first
  | walk_at "br"
  | with_reducible (intro _)
  | (refine ⟨_, (by walk_at "has" : Has _ _ _), ?_⟩)
  | (refine ⟨_, (by walk_at "hasl" : HasL _ _ _), ?_⟩)
  | (refine ⟨_, _, (by walk_at "chg" : Chg _ _ _ _ _), ?_⟩)
  | (refine ⟨_, _, _, (by walk_at "chg" : Chg _ _ _ _ _), (by first | rfl | assumption : ixN _ _ = some _), ?_⟩)
  | (refine ⟨_, _, (by walk_at "sel" : Sel _ _ _ _), ?_⟩)
  | (refine ⟨_, _, _, (by walk_at "has" : Has _ _ _), (by assumption), ?_⟩)
  | (refine ⟨_, (by first | rfl | assumption : atI _ _ = some _), ?_⟩)
  | (refine And.intro (by walk_at "side") ?_)))
local macro_rules | `(tactic| walk_at "st2") => `(tactic| first | walk_at "st" | ((try (conv => whnf)); with_reducible refine And.intro ?_ ?_; rotate_left))
local macro_rules | `(tactic| walk_at "go") => `(tactic| first | ((try (conv => whnf)); walk_at "br" <;> walk_at "go") | (walk_at "st"; walk_at "go") | (conv => whnf) | skip)
theorem call_down {cl : Cl} {L R : LL} {Φ : DK} {r l q s : Addr} {row : List Nat} {as : List Bool} {lg : Log} {a : Int} (p : Nat) (hp : Pull L ((r, rowO row) :: logF l q s as (lg.map pr)) R) (ei : a = p) (h1 : p < row.length) (h2 : row.length ≤ 100000)
    (h4 : lg.length + (sinkFrom row p).depth ≤ 1000000) (o : outL r l q s as R ((sinkFrom row p).ex (.told as) lg) (fun row' L => Φ (.bl true) ((r, rowO row') :: L)) (Φ (.bl false))) : CtOf (S_law_down cl) [.ref r, .int a, .ref l] L Φ := by
  subst ei
  exact ⟨_, _, hp, r, l, q, s, row, p, as, lg, rfl, rfl, ⟨h1, h2, h4⟩, o⟩
theorem rd_law_first (cl : Cl) (ds : List D) (F R : LL) (Φ : DK) (h : S_law_first cl ds F R Φ) : t__law_first cl (endD Φ) (startD 4 ds) (F ++ R) := by
  obtain ⟨r, l, q, s, row, item, as, lg, rfl, rfl, ⟨h1, hz, h4⟩, h⟩ := h
  walk_at "go"
  refine ⟨_, atI_dn 0 rfl h1, ?_⟩
  walk_at "go"
  refine ⟨_, _, 0, by walk_at "chg", ixN_of 0 rfl (by simpa using h1), ?_⟩
  walk_at "go"
  have e : (row.map dn).set 0 (D.int item) = (row.set 0 item).map dn := by simp [List.map_set, dn]
  rw [e]
  refine call_down 0 (by walk_at "pull") rfl (by rw [List.length_set]; exact h1) (by rw [List.length_set]; exact hz) h4 ?_
  refine h.imp (fun row' lg' _ h => ?_) (fun st i j lg' _ h => ?_)
  · walk_at "go"
    refine Ret.mk _ ?_ h
    walk_at "cov"
  · walk_at "go"
    refine Ret.mk _ ?_ h
    walk_at "cov"
theorem call_first {cl : Cl} {L R : LL} {Φ : DK} {r l q s : Addr} {row : List Nat} {as : List Bool} {lg : Log} {a : Int} (item : Nat) (hp : Pull L ((r, rowO row) :: logF l q s as (lg.map pr)) R) (ei : a = item) (h1 : 0 < row.length) (h2 : row.length ≤ 100000)
    (h4 : lg.length + (putT row item).depth ≤ 1000000) (o : outL r l q s as R ((putT row item).ex (.told as) lg) (fun row' L => Φ (.tup [.int (row.getD 0 0 : Nat), .bl true]) ((r, rowO row') :: L)) (Φ (.tup [.int (row.getD 0 0 : Nat), .bl false]))) : CtOf (S_law_first cl) [.ref r, .int a, .ref l] L Φ := by
  subst ei
  exact ⟨_, _, hp, r, l, q, s, row, item, as, lg, rfl, rfl, ⟨h1, h2, h4⟩, o⟩
theorem outL_bind {α β : Type} {r l q s : Addr} {as : List Bool} {R : LL} {t : Tr α} {f : α → β} {lg : Log} {Φ : β → LL → Prop} {Ψ : LL → Prop} (o : outL r l q s as R ((t.bind fun a => .ret (f a)).ex (.told as) lg) Φ Ψ) : outL r l q s as R (t.ex (.told as) lg) (fun a => Φ (f a)) Ψ := by
  rw [Tr.ex_bind] at o
  cases hx : t.ex (.told as) lg with
  | ok a l => rw [hx] at o; exact o
  | no s i j l => rw [hx] at o; exact o
theorem told_ok {as : List Bool} {row : List Nat} : (AK.told as).okR row := fun _ _ => trivial
theorem deed_heapify (row : List Nat) : deedT .heapify row = (makeT (row.length / 2) row).bind fun r => .ret (r, none) := rfl
theorem deed_push (row : List Nat) : deedT .push row = (riseT (row.length + 1) (row ++ [row.length]) row.length 0).bind fun r => .ret (r, none) := rfl
theorem deed_pop (row : List Nat) : deedT .pop row = (takeT row).bind fun r => .ret (r.1, some r.2) := rfl
theorem deed_replace (row : List Nat) : deedT .replace row = (putT row row.length).bind fun r => .ret (r, some (row.getD 0 0)) := rfl
theorem deed_pushpop (row : List Nat) : deedT .pushpop row = if row = [] then .ret (row, some row.length) else .ask row (row.getD 0 0) row.length fun b => if b then (putT row row.length).bind fun r => .ret (r, some (row.getD 0 0)) else .ret (row, some row.length) := rfl
theorem rd_law_go (cl : Cl) (ds : List D) (F R : LL) (Φ : DK) (h : S_law_go cl ds F R Φ) : t__law_go cl (endD Φ) (startD 7 ds) (F ++ R) := by
  obtain ⟨w, r, l, q, s, row, as, rfl, rfl, ⟨h1, hz, h4⟩, h⟩ := h
  have hz' : ((row.map dn).length : Int) ≤ 100000 := by simp; omega
  cases w with
  | heapify =>
    rw [show Deed.heapify.str = ("heapify" : Str) from rfl]
    rw [deed_heapify] at h h4
    rw [Tr.depth_bind_ret] at h4
    have h := outL_bind h
    walk_at "go"
    generalize he : (makeT (row.length / 2) row).ex (.told as) [] = res at h
    have el : (rgDn (((row.map dn).length : Int) - 1) (-1)).length = row.length := by
      rw [rgDn_length]
      simp
    refine ForI.inv (α := List Nat × Log × D) (fun i x => [some (.str "heapify"), some (.ref r), some (.ref l), some (.int (row.map dn).length), (if i = 0 then none else some x.2.2), none, none]) (fun i x => (r, rowO x.1) :: logF l q s as (x.2.1.map pr) ++ R)
      (fun i x => i ≤ row.length ∧ x.1.length = row.length ∧ x.2.1.length + (makeT (min (row.length - i) (row.length / 2)) x.1).depth ≤ 1000000 ∧ (makeT (min (row.length - i) (row.length / 2)) x.1).ex (.told as) x.2.1 = res) (row, [], .non) (by walk_at "sub") .refl ⟨Nat.zero_le _, rfl, ?_, ?_⟩ ?_ ?_
    · rw [show min (row.length - 0) (row.length / 2) = row.length / 2 by omega]
      simpa using h4
    · rw [show min (row.length - 0) (row.length / 2) = row.length / 2 by omega]
      exact he
    · rintro i ⟨row1, lg, dd⟩ d hd ⟨g0, g1, g3, g4⟩
      obtain ⟨hi, rfl⟩ := rgDn_get hd
      dsimp only at g0 g1 g3 g4
      have hi' : i < row.length := by
        simp at hi
        omega
      refine ⟨trivial, ?_⟩
      dsimp only
      walk_at "go"
      · rename_i hc
        have hc' : 2 * (row.length - 1 - i) + 1 < row.length := by
          simp at hc
          omega
        obtain ⟨n, hn⟩ : ∃ n, min (row.length - i) (row.length / 2) = n + 1 := ⟨min (row.length - i) (row.length / 2) - 1, by omega⟩
        have hn1 : n = row.length - 1 - i := by omega
        have hn2 : min (row.length - (i + 1)) (row.length / 2) = n := by omega
        rw [hn] at g3 g4
        unfold makeT at g3 g4
        rw [Tr.ex_bind] at g4
        refine call_down n (by walk_at "pull") (by simp; omega) (by omega) (by omega) ?_ ?_
        · refine Nat.le_trans ?_ g3
          refine Nat.add_le_add_left ?_ _
          generalize sinkFrom row1 n = t
          induction t with
          | ret a => exact Nat.zero_le _
          | ask s i j c ih =>
            show max (c true).depth (c false).depth + 1 ≤ max ((c true).bind _).depth ((c false).bind _).depth + 1
            have a := ih true
            have b := ih false
            omega
        · cases hx : (sinkFrom row1 n).ex (.told as) lg with
          | ok row' l' =>
            rw [hx] at g4
            obtain ⟨z1, z2⟩ := sinkFrom_ex (by omega) told_ok hx
            have z3 := Tr.depth_bind_at (f := makeT n) hx
            unfold outL
            walk_at "go"
            refine Nx1.mk (row', l', .int ((((row.map dn).length : Int) - 1) - i)) ?_ ?_ ⟨by omega, by show row'.length = row.length; omega, ?_, ?_⟩
            · walk_at "sub"
            · walk_at "cov"
            · dsimp only
              rw [hn2]
              omega
            · dsimp only
              rw [hn2]
              exact g4
          | no st i' j l' =>
            rw [hx] at g4
            subst g4
            unfold outL
            walk_at "go"
            refine Ret.mk _ ?_ (h .non)
            walk_at "cov"
      · rename_i hc
        have hc' : ¬ 2 * (row.length - 1 - i) + 1 < row.length := by
          simp at hc
          omega
        refine Nx1.mk (row1, lg, .int ((((row.map dn).length : Int) - 1) - i)) ?_ ?_ ⟨by omega, g1, ?_, ?_⟩
        · walk_at "sub"
        · walk_at "cov"
        · dsimp only
          rw [show min (row.length - (i + 1)) (row.length / 2) = min (row.length - i) (row.length / 2) by omega]
          exact g3
        · dsimp only
          rw [show min (row.length - (i + 1)) (row.length / 2) = min (row.length - i) (row.length / 2) by omega]
          exact g4
    · rintro ⟨row1, lg, dd⟩ ⟨g0, g1, g3, g4⟩
      dsimp only at g0 g1 g3 g4
      rw [el, Nat.sub_self, show min 0 (row.length / 2) = 0 by omega] at g4
      refine ⟨trivial, ?_⟩
      dsimp only
      walk_at "go"
      have e1 : Rs.ok row1 lg = res := g4
      subst e1
      refine Ret.mk _ ?_ h
      walk_at "cov"
  | push =>
    rw [show Deed.push.str = ("push" : Str) from rfl]
    rw [deed_push] at h h4
    rw [Tr.depth_bind_ret] at h4
    have h := outL_bind h
    walk_at "go"
    have e : row.map dn ++ [D.int ((row.map dn).length : Nat)] = (row ++ [row.length]).map dn := by simp [dn]
    rw [e]
    have el : (row ++ [row.length]).length = row.length + 1 := by simp
    rw [← el] at h h4
    refine call_up (lg := []) 0 row.length (by walk_at "pull") rfl (by simp) (by simp) (by omega) (by simpa using h4) ?_
    refine h.imp (fun row' lg' _ h => ?_) (fun st i j lg' _ h => ?_)
    · walk_at "go"
      refine Ret.mk _ ?_ h
      walk_at "cov"
    · walk_at "go"
      refine Ret.mk _ ?_ (h _)
      walk_at "cov"
  | pop =>
    rw [show Deed.pop.str = ("pop" : Str) from rfl]
    rw [deed_pop] at h h4
    rw [Tr.depth_bind_ret] at h4
    have h := outL_bind h
    have h0 := h1 (.inl rfl)
    walk_at "go"
    refine ⟨dn (row.getD (row.length - 1) 0), ?_, ?_⟩
    · rw [List.length_map, List.getElem?_map, List.getElem?_eq_getElem (by omega)]
      simp [List.getD, List.getElem?_eq_getElem (show row.length - 1 < row.length by omega)]
    have ed : (row.map dn).dropLast = row.dropLast.map dn := by rw [List.map_dropLast]
    rw [ed]
    walk_at "go"
    refine deepE.isNil (by walk_at "hasl") (by walk_at "hasl") ?_
    by_cases h6 : row.length = 1
    · obtain ⟨x, rfl⟩ := List.length_eq_one_iff.mp h6
      walk_at "go"
      refine Ret.mk _ ?_ h
      walk_at "cov"
    · have e0 : ¬ row.dropLast = [] := fun z => by
        have z := congrArg List.length z
        rw [List.length_dropLast, List.length_nil] at z
        omega
      unfold takeT at h h4
      rw [if_neg h6] at h h4
      rw [Tr.depth_bind_ret] at h4
      have h := outL_bind h
      walk_at "go"
      refine call_first (lg := []) (row.getD (row.length - 1) 0) (by walk_at "pull") rfl (by simp; omega) (by simp; omega) (by simpa using h4) ?_
      rw [getD_dropLast (by omega)]
      refine h.imp (fun row' lg' _ h => ?_) (fun st i j lg' _ h => ?_)
      · refine Ret.mk _ ?_ h
        walk_at "cov"
      · refine Ret.mk _ ?_ (h _)
        walk_at "cov"
  | replace =>
    rw [show Deed.replace.str = ("replace" : Str) from rfl]
    rw [deed_replace] at h h4
    rw [Tr.depth_bind_ret] at h4
    have h := outL_bind h
    have h0 := h1 (.inr rfl)
    walk_at "go"
    refine call_first (lg := []) row.length (by walk_at "pull") (by simp) h0 (by omega) (by simpa using h4) ?_
    refine h.imp (fun row' lg' _ h => ?_) (fun st i j lg' _ h => ?_)
    · refine Ret.mk _ ?_ h
      walk_at "cov"
    · refine Ret.mk _ ?_ (h _)
      walk_at "cov"
  | pushpop =>
    rw [show Deed.pushpop.str = ("pushpop" : Str) from rfl]
    rw [deed_pushpop] at h h4
    walk_at "go"
    refine deepE.isNil (by walk_at "hasl") (by walk_at "hasl") ?_
    by_cases h6 : row = []
    · rw [if_pos h6] at h
      subst h6
      walk_at "go"
      refine Ret.mk _ ?_ h
      walk_at "cov"
    · rw [if_neg h6] at h h4
      have hl : 0 < row.length := List.length_pos_iff.mpr h6
      rw [Tr.ex_ask] at h
      walk_at "go"
      refine ⟨_, atI_dn 0 rfl hl, ?_⟩
      walk_at "go"
      refine call_ask (asked := []) _ row.length (by walk_at "pull") rfl (by simp) (by simp) ?_
      cases hb : as[0]? with
      | none =>
        have hb' : (AK.told as).ans ([] : Log).length (row.getD 0 0) row.length = none := hb
        rw [hb'] at h
        walk_at "go"
        refine Ret.mk _ ?_ (h .non)
        walk_at "cov"
      | some b =>
        have hb' : (AK.told as).ans ([] : Log).length (row.getD 0 0) row.length = some b := hb
        rw [hb'] at h
        have g6 := Tr.depth_pos (n := 0) (b := b) (by simpa using h4)
        cases b with
        | true =>
          simp only [if_true] at h g6
          rw [Tr.depth_bind_ret] at g6
          have h := outL_bind h
          walk_at "go"
          refine call_first (lg := [(row.getD 0 0, row.length, true)]) row.length (by walk_at "pull") (by simp) hl (by omega) (by simpa using g6) ?_
          refine h.imp (fun row' lg' _ h => ?_) (fun st i j lg' _ h => ?_)
          · refine Ret.mk _ ?_ h
            walk_at "cov"
          · refine Ret.mk _ ?_ (h _)
            walk_at "cov"
        | false =>
          simp only [Bool.false_eq_true, if_false] at h
          walk_at "go"
          refine Ret.eq ?_ h (by simp [optD])
          walk_at "cov"
end DL

/-! heaps: what trees ask; how deep they are -/
namespace DL
open PySem PySem.Spec PyProof.Rows L2
/-- only items that k knows are asked about -/
def TrOk {α : Type} (k : AK) : Tr α → Prop
  | .ret _ => True
  | .ask _ i j c => k.ok i ∧ k.ok j ∧ ∀ b, TrOk k (c b)
theorem TrOk.bind {α β : Type} {k : AK} {f : α → Tr β} : ∀ {t : Tr α}, TrOk k t → (∀ a, TrRow k 0 (fun _ : α => []) (Tr.ret a) → True) → (∀ a, TrOk k (f a)) → TrOk k (t.bind f)
  | .ret a, _, _, h => h a
  | .ask s i j c, h, g, hf => ⟨h.1, h.2.1, fun b => TrOk.bind (h.2.2 b) g hf⟩
theorem TrOk.bind' {α β : Type} {k : AK} {n : Nat} {len : α → List Nat} {f : α → Tr β} : ∀ {t : Tr α}, TrOk k t → TrRow k n len t → (∀ a, (len a).length = n → k.okR (len a) → TrOk k (f a)) → TrOk k (t.bind f)
  | .ret a, _, r, h => h a r.1 r.2
  | .ask s i j c, h, r, hf => ⟨h.1, h.2.1, fun b => TrOk.bind' (h.2.2 b) (r b) hf⟩
theorem TrRow.bind {α β : Type} {k : AK} {n m : Nat} {len : α → List Nat} {len' : β → List Nat} {f : α → Tr β} : ∀ {t : Tr α}, TrRow k n len t → (∀ a, (len a).length = n → k.okR (len a) → TrRow k m len' (f a)) → TrRow k m len' (t.bind f)
  | .ret a, r, h => h a r.1 r.2
  | .ask s i j c, r, hf => fun b => TrRow.bind (r b) hf
theorem riseT_ok {k : AK} : ∀ (f : Nat) (row : List Nat) (p low : Nat), p < row.length → k.okR row → TrOk k (riseT f row p low)
  | 0, row, p, low, _, h => trivial
  | f + 1, row, p, low, hp, h => by
    unfold riseT
    split
    · refine ⟨h.get hp, h.get (by omega), fun b => ?_⟩
      cases b with
      | true => exact riseT_ok f _ _ low (by rw [swapN_length]; omega) (h.swap hp (by omega))
      | false => trivial
    · trivial
theorem sinkT_ok {k : AK} : ∀ (f : Nat) (row : List Nat) (p low : Nat), p < row.length → k.okR row → TrOk k (sinkT f row p low)
  | 0, row, p, low, hp, h => riseT_ok _ row p low hp h
  | f + 1, row, p, low, hp, h => by
    unfold sinkT
    split
    · split
      · refine ⟨h.get (by omega), h.get (by omega), fun b => ?_⟩
        exact sinkT_ok f _ _ low (by rw [swapN_length]; split <;> omega) (h.swap hp (by split <;> omega))
      · exact sinkT_ok f _ _ low (by rw [swapN_length]; omega) (h.swap hp (by omega))
    · exact riseT_ok _ row p low hp h
theorem sinkFrom_ok {k : AK} {row : List Nat} {p : Nat} (hp : p < row.length) (h : k.okR row) : TrOk k (sinkFrom row p) := sinkT_ok _ _ _ _ hp h
theorem sinkFrom_row {k : AK} {row : List Nat} {p : Nat} (hp : p < row.length) (h : k.okR row) : TrRow k row.length id (sinkFrom row p) := sinkT_row _ _ _ _ hp h
theorem makeT_row {k : AK} : ∀ (n : Nat) (row : List Nat), n ≤ row.length → k.okR row → TrRow k row.length id (makeT n row)
  | 0, row, _, h => ⟨rfl, h⟩
  | n + 1, row, hn, h => by
    unfold makeT
    refine (sinkFrom_row (by omega) h).bind fun a h1 h2 => ?_
    have := makeT_row n a (by rw [show a.length = row.length from h1]; omega) h2
    rw [show a.length = row.length from h1] at this
    exact this
theorem makeT_ok {k : AK} : ∀ (n : Nat) (row : List Nat), n ≤ row.length → k.okR row → TrOk k (makeT n row)
  | 0, row, _, h => trivial
  | n + 1, row, hn, h => by
    unfold makeT
    exact (sinkFrom_ok (by omega) h).bind' (sinkFrom_row (by omega) h) fun a h1 h2 => makeT_ok n a (by rw [show a.length = row.length from h1]; omega) h2
theorem putT_row {k : AK} {row : List Nat} {item : Nat} (h0 : 0 < row.length) (hi : k.ok item) (h : k.okR row) : TrRow k row.length id (putT row item) := by
  have := sinkFrom_row (k := k) (row := row.set 0 item) (p := 0) (by rw [List.length_set]; exact h0) (h.set hi)
  rw [List.length_set] at this
  exact this
theorem putT_ok {k : AK} {row : List Nat} {item : Nat} (h0 : 0 < row.length) (hi : k.ok item) (h : k.okR row) : TrOk k (putT row item) := sinkFrom_ok (by rw [List.length_set]; exact h0) (h.set hi)
theorem TrOk.bret {α β : Type} {k : AK} {f : α → β} {t : Tr α} (h : TrOk k t) : TrOk k (t.bind fun a => .ret (f a)) := h.bind (fun _ _ => trivial) fun _ => trivial
theorem takeT_ok {k : AK} {row : List Nat} (h0 : 0 < row.length) (h : k.okR row) : TrOk k (takeT row) := by
  unfold takeT
  split
  · trivial
  · exact (putT_ok (by simp; omega) (h.get (by omega)) h.dropLast).bret
theorem deedT_ok {w : Deed} {k : AK} {row : List Nat} (d : DeedOk w k row) : TrOk k (deedT w row) := by
  obtain ⟨h1, h2, _, h3⟩ := d
  cases w with
  | heapify => exact (makeT_ok _ row (by omega) h3).bret
  | push =>
    refine (riseT_ok _ _ _ _ (by simp) fun x hx => ?_).bret
    rcases List.mem_append.mp hx with hx | hx
    · exact h3 x hx
    · rw [List.mem_singleton.mp hx]
      exact h2 (by decide) (by decide)
  | pop => exact (takeT_ok (h1 (.inl rfl)) h3).bret
  | replace => exact (putT_ok (h1 (.inr rfl)) (h2 (by decide) (by decide)) h3).bret
  | pushpop =>
    rw [deed_pushpop]
    split
    · trivial
    · rename_i h6
      have hl : 0 < row.length := List.length_pos_iff.mpr h6
      refine ⟨h3.get hl, h2 (by decide) (by decide), fun b => ?_⟩
      cases b with
      | true => exact (putT_ok hl (h2 (by decide) (by decide)) h3).bret
      | false => trivial
theorem TrRow.bret {α β : Type} {k : AK} {n m : Nat} {len : α → List Nat} {len' : β → List Nat} {f : α → β} {t : Tr α} (h : TrRow k n len t) (g : ∀ a, (len a).length = n → k.okR (len a) → (len' (f a)).length = m ∧ k.okR (len' (f a))) : TrRow k m len' (t.bind fun a => .ret (f a)) := h.bind fun a h1 h2 => g a h1 h2
def Deed.len (w : Deed) (n : Nat) : Nat := match w with
  | .push => n + 1
  | .pop => n - 1
  | _ => n
theorem deedT_row {w : Deed} {k : AK} {row : List Nat} (d : DeedOk w k row) : TrRow k (w.len row.length) Prod.fst (deedT w row) := by
  obtain ⟨h1, h2, _, h3⟩ := d
  have hadd : ∀ (_ : w ≠ .heapify) (_ : w ≠ .pop), k.okR (row ++ [row.length]) := fun a b x hx => by
    rcases List.mem_append.mp hx with hx | hx
    · exact h3 x hx
    · rw [List.mem_singleton.mp hx]
      exact h2 a b
  cases w with
  | heapify => exact (makeT_row (row.length / 2) row (by omega) h3).bret fun a h1 h2 => ⟨h1, h2⟩
  | push =>
    have := riseT_row (k := k) (row.length + 1) (row ++ [row.length]) row.length 0 (by simp) (hadd (by decide) (by decide))
    rw [List.length_append] at this
    exact this.bret fun a h1 h2 => ⟨h1, h2⟩
  | pop =>
    have h0 := h1 (.inl rfl)
    rw [deed_pop]
    unfold takeT
    split
    · rename_i h6
      refine ⟨?_, fun x hx => ?_⟩
      · show 0 = row.length - 1
        omega
      · cases hx
    · have := putT_row (k := k) (row := row.dropLast) (item := row.getD (row.length - 1) 0) (by simp; omega) (h3.get (by omega)) h3.dropLast
      rw [List.length_dropLast] at this
      rw [Tr.bind_assoc]
      exact this.bind fun a h1 h2 => ⟨h1, h2⟩
  | replace => exact (putT_row (h1 (.inr rfl)) (h2 (by decide) (by decide)) h3).bret fun a h1 h2 => ⟨h1, h2⟩
  | pushpop =>
    rw [deed_pushpop]
    split
    · exact ⟨rfl, h3⟩
    · rename_i h6
      have hl : 0 < row.length := List.length_pos_iff.mpr h6
      intro b
      cases b with
      | true => exact (putT_row hl (h2 (by decide) (by decide)) h3).bret fun a h1 h2 => ⟨h1, h2⟩
      | false => exact ⟨rfl, h3⟩
theorem deedT_fin {w : Deed} {ms : List Int} {x : List D} {row : List Nat} (d : DeedOk w (.hon ms x) row) : ((deedT w row).fin ms).1.length = w.len row.length ∧ ∀ i ∈ ((deedT w row).fin ms).1, i < ms.length := TrRow.ex (deedT_row d) (Tr.ex_hon ms x _ [])
theorem TrOk.truth {α : Type} {ms : List Int} {x : List D} : ∀ {t : Tr α}, TrOk (.hon ms x) t → ∀ e ∈ t.truth ms, e.1 < ms.length ∧ e.2.1 < ms.length ∧ e.2.2 = lessN ms e.1 e.2.1
  | .ret _, _, e, he => by cases he
  | .ask s i j c, h, e, he => by
    rcases List.mem_cons.mp he with he | he
    · subst he
      exact ⟨h.1, h.2.1, rfl⟩
    · exact TrOk.truth (h.2.2 _) e he
/-! depths -/
theorem riseT_depth : ∀ (f : Nat) (row : List Nat) (p low L : Nat), p + 1 ≤ (low + 1) * 2 ^ L → (riseT f row p low).depth ≤ L
  | 0, row, p, low, L, _ => Nat.zero_le _
  | f + 1, row, p, low, L, h => by
    unfold riseT
    split
    · rename_i hp
      cases L with
      | zero => simp at h; omega
      | succ L =>
        have h2 : (p - 1) / 2 + 1 ≤ (low + 1) * 2 ^ L := by
          rw [Nat.pow_succ, ← Nat.mul_assoc] at h
          omega
        have := riseT_depth f (swapN row p ((p - 1) / 2)) ((p - 1) / 2) low L h2
        show max (riseT f (swapN row p ((p - 1) / 2)) ((p - 1) / 2) low).depth 0 + 1 ≤ L + 1
        omega
    · exact Nat.zero_le _
/-- p lies d levels below low; the row has places for at most K levels below low -/
theorem sinkT_depth : ∀ (f : Nat) (row : List Nat) (p low d K : Nat), p < row.length → (low + 1) * 2 ^ d ≤ p + 1 → row.length < 2 ^ (K + 1) → (sinkT f row p low).depth + d ≤ 2 * K + 1
  | 0, row, p, low, d, K, hp, hd, hK => by
    have h1 : (riseT row.length row p low).depth ≤ K + 1 := riseT_depth _ _ _ _ _ (by
      have : 2 ^ (K + 1) ≤ (low + 1) * 2 ^ (K + 1) := Nat.le_mul_of_pos_left _ (by omega)
      omega)
    have h2 : 2 ^ d < 2 ^ (K + 1) := by
      have : 2 ^ d ≤ (low + 1) * 2 ^ d := Nat.le_mul_of_pos_left _ (by omega)
      omega
    have h3 := (Nat.pow_lt_pow_iff_right (by decide : 1 < 2)).mp h2
    show (riseT row.length row p low).depth + d ≤ _
    omega
  | f + 1, row, p, low, d, K, hp, hd, hK => by
    have hc : ∀ c, (c = 2 * p + 1 ∨ c = 2 * p + 2) → c < row.length → (sinkT f (swapN row p c) c low).depth + (d + 1) ≤ 2 * K + 1 := fun c h1 h2 =>
      sinkT_depth f (swapN row p c) c low (d + 1) K (by rw [swapN_length]; exact h2) (by
        rw [Nat.pow_succ, ← Nat.mul_assoc]
        omega) (by rw [swapN_length]; exact hK)
    unfold sinkT
    split
    · split
      · have a := hc (2 * p + 1) (.inl rfl) (by omega)
        have b := hc (2 * p + 2) (.inr rfl) (by omega)
        show max (sinkT f (swapN row p (2 * p + 1)) (2 * p + 1) low).depth (sinkT f (swapN row p (2 * p + 2)) (2 * p + 2) low).depth + 1 + d ≤ _
        omega
      · have a := hc (2 * p + 1) (.inl rfl) (by omega)
        omega
    · exact sinkT_depth 0 row p low d K hp hd hK
theorem sinkFrom_depth {row : List Nat} {p K : Nat} (hp : p < row.length) (hK : row.length < 2 ^ (K + 1)) : (sinkFrom row p).depth ≤ 2 * K + 1 := by
  have := sinkT_depth row.length row p p 0 K hp (by simp) hK
  exact this
theorem depth_bind_row {α β : Type} {k : AK} {n m : Nat} {len : α → List Nat} {f : α → Tr β} : ∀ {t : Tr α}, TrRow k n len t → (∀ a, (len a).length = n → k.okR (len a) → (f a).depth ≤ m) → (t.bind f).depth ≤ t.depth + m
  | .ret a, r, h => by
    have := h a r.1 r.2
    show (f a).depth ≤ 0 + m
    omega
  | .ask s i j c, r, h => by
    have a := depth_bind_row (r true) h
    have b := depth_bind_row (r false) h
    show max ((c true).bind f).depth ((c false).bind f).depth + 1 ≤ max (c true).depth (c false).depth + 1 + m
    omega
theorem makeT_depth {K : Nat} : ∀ (n : Nat) (row : List Nat), n ≤ row.length → row.length < 2 ^ (K + 1) → (makeT n row).depth ≤ n * (2 * K + 1)
  | 0, row, _, _ => by
    show 0 ≤ _
    omega
  | n + 1, row, hn, hK => by
    unfold makeT
    refine Nat.le_trans (depth_bind_row (k := .told []) (n := row.length) (len := id) (m := n * (2 * K + 1)) (sinkFrom_row (by omega) fun _ _ => trivial) fun a h1 _ => ?_) ?_
    · have h1 : a.length = row.length := h1
      exact makeT_depth n a (by omega) (by omega)
    · have := sinkFrom_depth (p := n) (by omega) hK
      rw [Nat.add_mul n 1 (2 * K + 1)]
      omega
theorem putT_depth {row : List Nat} {item K : Nat} (h0 : 0 < row.length) (hK : row.length < 2 ^ (K + 1)) : (putT row item).depth ≤ 2 * K + 1 := sinkFrom_depth (by rw [List.length_set]; exact h0) (by rw [List.length_set]; exact hK)
theorem takeT_depth {row : List Nat} {K : Nat} (h0 : 0 < row.length) (hK : row.length < 2 ^ (K + 1)) : (takeT row).depth ≤ 2 * K + 1 := by
  unfold takeT
  split
  · exact Nat.zero_le _
  · rw [Tr.depth_bind_ret]
    exact putT_depth (by simp; omega) (by simp; omega)
/-- for lists of at most 4094 items -/
theorem deedT_depth {w : Deed} {row : List Nat} (h1 : w = .pop ∨ w = .replace → 0 < row.length) (hz : row.length < 4095) : (deedT w row).depth ≤ 12 * row.length + 24 := by
  cases w with
  | heapify =>
    rw [deed_heapify, Tr.depth_bind_ret]
    refine Nat.le_trans (makeT_depth (K := 11) _ row (by omega) (by omega)) ?_
    omega
  | push =>
    rw [deed_push, Tr.depth_bind_ret]
    exact Nat.le_trans (riseT_depth _ _ _ _ 12 (by omega)) (by omega)
  | pop =>
    rw [deed_pop, Tr.depth_bind_ret]
    exact Nat.le_trans (takeT_depth (K := 11) (h1 (.inl rfl)) (by omega)) (by omega)
  | replace =>
    rw [deed_replace, Tr.depth_bind_ret]
    exact Nat.le_trans (putT_depth (K := 11) (h1 (.inr rfl)) (by omega)) (by omega)
  | pushpop =>
    rw [deed_pushpop]
    split
    · exact Nat.zero_le _
    · rename_i h6
      have hl : 0 < row.length := List.length_pos_iff.mpr h6
      show max ((putT row row.length).bind _).depth 0 + 1 ≤ _
      rw [Tr.depth_bind_ret]
      have := putT_depth (item := row.length) (K := 11) hl (by omega)
      omega
end DL

namespace DL
open PySem PySem.Spec PyProof.Rows L2
local macro_rules | `(tactic| walk_at "has") => `(tactic| first | exact Has.here | (apply Has.there; walk_at "has"))
local macro_rules | `(tactic| walk_at "hasl") => `(tactic| first | (refine Or.inl ?_; walk_at "has") | (refine Or.inr ?_; walk_at "has"))
local macro_rules | `(tactic| walk_at "sel") => `(tactic| first | exact Sel.here | (apply Sel.there; walk_at "sel"))
local macro_rules | `(tactic| walk_at "chg") => `(tactic| first | exact Chg.here | (apply Chg.there; walk_at "chg"))
local macro_rules | `(tactic| walk_at "pull") => `(tactic| first | exact Pull.nil | (apply Pull.cons; (walk_at "sel"); exact rfl; walk_at "pull"))
local macro_rules | `(tactic| walk_at "cov") => `(tactic| first | exact Cov.refl | (apply Cov.take; (walk_at "sel"); (first | exact rfl | assumption); walk_at "cov") | (apply Cov.take; (walk_at "sel"); rotate_left; walk_at "cov") | (refine Cov.drop ?_; walk_at "cov"))
local macro_rules | `(tactic| walk_at "sub") => `(tactic| first | exact Sub.nil | (refine Sub.same (by first | rfl | assumption) ?_; walk_at "sub") | (refine Sub.any ?_; walk_at "sub") | (refine Sub.same ?_ ?_; rotate_left; walk_at "sub"))
local macro_rules | `(tactic| walk_at "side") => `(tactic| first | assumption | (with_reducible rfl) | omega | (refine mulOk_r ?_ ?_ <;> first | omega | decide) | (refine mulOk_l ?_ ?_ <;> first | omega | decide) | (refine divOk_of ?_ ?_ <;> first | omega | decide) | (refine ⟨?_, ?_⟩ <;> walk_at "side") | rfl | (simp <;> omega) | decide)
local macro_rules | `(tactic| walk_at "kn") => `(tactic| first | assumption | decide | rfl)
local macro_rules | `(tactic| walk_at "br") => `(tactic| first | (with_reducible first | refine Br.t ?_ | refine Br.f ?_) | ((with_reducible refine Br.dec_t ?_ ?_); focus walk_at "kn") | ((with_reducible refine Br.dec_f ?_ ?_); focus walk_at "kn") | ((with_reducible refine Br.ndec_t ?_ ?_); focus walk_at "kn") | ((with_reducible refine Br.ndec_f ?_ ?_); focus walk_at "kn") | (with_reducible first | (refine Br.dec ?_ ?_ <;> intro _) | (refine Br.ndec ?_ ?_ <;> intro _)) | refine Br.t ?_ | refine Br.f ?_ | (with_reducible refine Br.mk ?_ ?_ <;> intro _))
local macro_rules | `(tactic| walk_at "st") => `(tactic| ((try (conv => whnf)); first
  | walk_at "br"
  | with_reducible (intro _)
  | (refine ⟨_, (by walk_at "has" : Has _ _ _), ?_⟩)
  | (refine ⟨_, (by walk_at "hasl" : HasL _ _ _), ?_⟩)
  | (refine ⟨_, _, (by walk_at "chg" : Chg _ _ _ _ _), ?_⟩)
  | (refine ⟨_, _, _, (by walk_at "chg" : Chg _ _ _ _ _), (by first | rfl | assumption : ixN _ _ = some _), ?_⟩)
  | (refine ⟨_, _, (by walk_at "sel" : Sel _ _ _ _), ?_⟩)
  | (refine ⟨_, _, _, (by walk_at "has" : Has _ _ _), (by assumption), ?_⟩)
  | (refine ⟨_, (by first | rfl | assumption : atI _ _ = some _), ?_⟩)
  | (refine And.intro (by walk_at "side") ?_)))
local macro_rules | `(tactic| walk_at "st2") => `(tactic| first | walk_at "st" | ((try (conv => whnf)); with_reducible refine And.intro ?_ ?_; rotate_left))
local macro_rules | `(tactic| walk_at "go") => `(tactic| first | ((try (conv => whnf)); walk_at "br" <;> walk_at "go") | (walk_at "st"; walk_at "go") | (conv => whnf) | skip)
theorem cutD_init {xs : List D} {x : D} : cutD (xs ++ [x]) none (some (-1)) = xs := by
  unfold cutD
  have e : HT.sIx (xs ++ [x]).length (xs ++ [x]).length (some (-1)) = xs.length := by
    simp [HT.sIx]
    try omega
  rw [e, HT.sIx_none]
  simp
theorem call_go {cl : Cl} {L R : LL} {Φ : DK} {r l q s : Addr} {row : List Nat} {as : List Bool} (w : Deed) (hp : Pull L ((r, rowO row) :: logF l q s as []) R) (h1 : w = .pop ∨ w = .replace → 0 < row.length) (h2 : row.length < 100000) (h3 : (deedT w row).depth ≤ 1000000)
    (o : outL r l q s as R ((deedT w row).ex (.told as) []) (fun a L => Φ (.tup [optD a.2, .bl true]) ((r, rowO a.1) :: L)) (fun L => ∀ d, Φ (.tup [d, .bl false]) L)) : CtOf (S_law_go cl) [.str w.str, .ref r, .ref l] L Φ :=
  ⟨_, _, hp, w, r, l, q, s, row, as, rfl, rfl, ⟨h1, h2, h3⟩, o⟩
theorem rd_law_deed (cl : Cl) (ds : List D) (F R : LL) (Φ : DK) (h : S_law_deed cl ds F R Φ) : t__law_deed cl (endD Φ) (startD 7 ds) (F ++ R) := by
  obtain ⟨w, q, many, as, rfl, rfl, ⟨h1, h2, h3⟩, h⟩ := h
  walk_at "go"
  rename_i r s l
  have e : rgD 0 many = (List.range many).map dn := by
    unfold rgD dn
    simp
  rw [e]
  refine call_go w (as := as) (q := q) (s := s) (by walk_at "pull") (by simpa using h1) (by simpa using h2) h3 ?_
  cases hx : (deedT w (List.range many)).ex (.told as) [] with
  | ok a lg =>
    rw [hx] at h
    unfold outL
    walk_at "go"
    refine Ret.mk _ ?_ (h r s)
    walk_at "cov"
  | no st i j lg =>
    rw [hx] at h
    unfold outL
    intro d
    walk_at "go"
    refine ⟨qD (i, j), atI_lastD (by simp [qD]), ?_⟩
    walk_at "go"
    have e2 : cutD ((lg.map pr ++ [(i, j)]).map qD) none (some (-1)) = (lg.map pr).map qD := by
      rw [List.map_append]
      exact cutD_init
    rename_i s2
    rw [e2]
    refine Ret.mk _ ?_ (h r s2)
    walk_at "cov"
theorem call_deed {cl : Cl} {L R : LL} {Φ : DK} {q : Addr} {as : List Bool} {a : Int} (w : Deed) (many : Nat) (hp : Pull L [(q, .lst (as.map .bl))] R) (ea : a = many) (h1 : w = .pop ∨ w = .replace → 0 < many) (h2 : many < 100000) (h3 : (deedT w (List.range many)).depth ≤ 1000000)
    (o : deedOut ([(q, .lst (as.map .bl))] ++ R) Φ ((deedT w (List.range many)).ex (.told as) [])) : CtOf (S_law_deed cl) [.str w.str, .int a, .ref q] L Φ := by
  subst ea
  exact ⟨_, _, hp, w, q, many, as, rfl, rfl, ⟨h1, h2, h3⟩, o⟩
theorem deedOk_range {w : Deed} {ms : List Int} {x : List D} {many : Nat} (h1 : ms.length = many + w.more) (h2 : w = .pop ∨ w = .replace → 0 < many) (h3 : many ≤ 2500) : DeedOk w (.hon ms x) (List.range many) := by
  refine ⟨by simpa using h2, fun a b => ?_, by simp; omega, fun y hy => ?_⟩
  · show (List.range many).length < ms.length
    rw [List.length_range]
    cases w with
    | heapify => exact absurd rfl a
    | pop => exact absurd rfl b
    | push => simp [Deed.more] at h1; omega
    | replace => simp [Deed.more] at h1; omega
    | pushpop => simp [Deed.more] at h1; omega
  · have := List.mem_range.mp hy
    show y < ms.length
    omega
theorem deedT_turns {w : Deed} {row : List Nat} (h1 : w = .pop ∨ w = .replace → 0 < row.length) (hz : row.length < 4095) : (deedT w row).depth < 40 * (row.length + w.more) + 5 := by
  have h := deedT_depth h1 hz
  cases w with
  | heapify =>
    rw [deed_heapify, Tr.depth_bind_ret]
    have := makeT_depth (K := 11) (row.length / 2) row (by omega) (by omega)
    show _ < 40 * (row.length + 0) + 5
    omega
  | push => show _ < 40 * (row.length + 1) + 5; omega
  | pop => have := h1 (.inl rfl); show _ < 40 * (row.length + 0) + 5; omega
  | replace => show _ < 40 * (row.length + 1) + 5; omega
  | pushpop => show _ < 40 * (row.length + 1) + 5; omega
/-- the first n honest answers -/
theorem ex_first (ms : List Int) {α : Type} (t : Tr α) (n : Nat) (h : n ≤ (t.truth ms).length) : (n = (t.truth ms).length ∧ t.ex (.told (((t.truth ms).take n).map (·.2.2))) [] = .ok (t.fin ms) (t.truth ms)) ∨
    ∃ q st, (t.truth ms)[n]? = some q ∧ t.ex (.told (((t.truth ms).take n).map (·.2.2))) [] = .no st q.1 q.2.1 ((t.truth ms).take n) := by
  have e := Tr.ex_told ms t [] n h
  simpa only [List.map_nil, List.nil_append] using e
theorem rd_law_honest (cl : Cl) (ds : List D) (F R : LL) (Φ : DK) (h : S_law_honest cl ds F R Φ) : t__law_honest cl (endD Φ) (startD 9 ds) (F ++ R) := by
  obtain ⟨w, m, many, ms, rfl, rfl, ⟨h1, h2, h3⟩, h⟩ := h
  have hm1 : w.more ≤ 1 := by cases w <;> decide
  have hlen : ((ms.map D.int).length : Int) ≤ 2501 := by simp; omega
  have hdp : (deedT w (List.range many)).depth ≤ 12 * many + 24 := by
    have := deedT_depth (w := w) (row := List.range many) (by simpa using h2) (by simp; omega)
    rwa [List.length_range] at this
  have hok := deedT_ok (deedOk_range (x := []) h1 h2 h3)
  have htr := hok.truth
  have hin : inD (.str w.str) [.str "push", .str "replace", .str "pushpop"] = decide (w.more = 1) := by cases w <;> decide +kernel
  walk_at "go"
  rename_i aq
  rw [hin]
  have hmany : ((ms.map D.int).length : Int) - (if decide (w.more = 1) = true then 1 else 0) = many := by
    rw [List.length_map, h1]
    cases w <;> simp [Deed.more]
  have hT : ((deedT w (List.range many)).truth ms).length ≤ 12 * many + 24 := Nat.le_trans (Tr.truth_depth ms _) hdp
  have hT2 : ((deedT w (List.range many)).truth ms).length < 40 * ms.length + 5 := by
    have := deedT_turns (w := w) (row := List.range many) (by simpa using h2) (by simp; omega)
    rw [List.length_range, ← h1] at this
    exact Nat.lt_of_le_of_lt (Tr.truth_depth ms _) this
  generalize hTr : (deedT w (List.range many)).truth ms = tr at *
  refine ForI.inv (α := Unit) (fun i _ => [some (.str w.str), some (.ref m), none, some (.int many), some (.ref aq), none, none, none, none]) (fun i _ => (aq, .lst (((tr.take i).map (·.2.2)).map .bl)) :: (m, intsO ms) :: R)
    (fun i _ => i ≤ tr.length) () ?_ ?_ (Nat.zero_le _) ?_ ?_
  · walk_at "sub"
    simpa using hmany
  · walk_at "cov"
  · intro i u d hd hi
    refine ⟨trivial, ?_⟩
    dsimp only
    walk_at "go"
    refine call_deed w many (by walk_at "pull") rfl h2 (by omega) (by omega) ?_
    have hx := ex_first ms (deedT w (List.range many)) i (by rw [hTr]; exact hi)
    rw [hTr] at hx
    rcases hx with ⟨e1, e2⟩ | ⟨q, st, e1, e2⟩
    · rw [e2]
      intro r s
      walk_at "go"
      refine Ret.mk _ ?_ (h r s)
      walk_at "cov"
    · rw [e2]
      intro r s
      have hq := htr q (List.mem_of_getElem? e1)
      have hlt : i < tr.length := (List.getElem?_eq_some_iff.mp e1).1
      walk_at "go"
      refine ⟨_, atI_int q.1 rfl hq.1, ?_⟩
      walk_at "go"
      refine ⟨_, atI_int q.2.1 rfl hq.2.1, ?_⟩
      walk_at "go"
      refine Nx1.mk () ?_ ?_ hlt
      · walk_at "sub"
      · walk_at "cov"
        rw [List.take_add_one, e1]
        simp [hq.2.2, lessN, keyN]
  · intro u hi
    exfalso
    rw [rgD_length] at hi
    simp at hi
    omega
end DL

/-! heaps: deed_done, faults; contracts -/
namespace DL
open PySem PySem.Spec PyProof.Rows L2
theorem no_Honest (cl : Cl) : NonOnly (C_Honest___init__ cl) := nonly_of fun ds F R Φ ⟨h, d, xs, Fq, e1, e2, hs, k⟩ => ⟨h, d, xs, Fq, e1, e2, hs, fun mk la => ⟨rfl, k mk la⟩⟩
/-- p's key is less than that of its parent -/
def badN (ms : List Int) (p : Nat) : Bool := decide (1 ≤ p) && decide (keyN ms p < keyN ms ((p - 1) / 2))
def faultN (ms : List Int) : Option Nat := (List.range ms.length).find? (badN ms)
theorem faultN_some {ms : List Int} {p : Nat} (h1 : p < ms.length) (h2 : badN ms p = true) (h3 : ∀ q, q < p → badN ms q = false) : faultN ms = some p := by
  unfold faultN
  rw [List.find?_range_eq_some]
  exact ⟨h2, List.mem_range.mpr h1, fun j hj => by simpa using h3 j hj⟩
theorem faultN_none {ms : List Int} (h3 : ∀ q, q < ms.length → badN ms q = false) : faultN ms = none := by
  unfold faultN
  rw [List.find?_eq_none]
  intro x hx
  simpa using h3 x (List.mem_range.mp hx)
def S_first_fault (cl : Cl) : Sc := fun ds F R Φ => ∃ (d : D) (ms : List Int), ds = [d] ∧ seqF d ms F ∧ ms.length ≤ 100000 ∧ Φ (optD (faultN ms)) (F ++ R)
def C_first_fault (cl : Cl) : Ct := CtOf (S_first_fault cl)
def S_heap_fault (cl : Cl) : Sc := fun ds F R Φ => ∃ (d : D) (ms : List Int), ds = [d] ∧ seqF d ms F ∧ ms.length ≤ 2500 ∧ Φ (optD (faultN ms)) (F ++ R)
def C_heap_fault (cl : Cl) : Ct := CtOf (S_heap_fault cl)
def S_is_heap (cl : Cl) : Sc := fun ds F R Φ => ∃ (d : D) (ms : List Int), ds = [d] ∧ seqF d ms F ∧ ms.length ≤ 2500 ∧ Φ (.bl (faultN ms).isNone) (F ++ R)
def C_is_heap (cl : Cl) : Ct := CtOf (S_is_heap cl)
def S_require_deed (cl : Cl) : Sc := fun ds F R Φ => ∃ w : Deed, ds = [.str w.str] ∧ F = [] ∧ Φ .non R
def C_require_deed (cl : Cl) : Ct := CtOf (S_require_deed cl)
def S_require_filled (cl : Cl) : Sc := fun ds F R Φ => ∃ (w : Deed) (n : Nat), ds = [.str w.str, .int n] ∧ F = [] ∧ (w = .pop ∨ w = .replace → 0 < n) ∧ Φ .non R
def C_require_filled (cl : Cl) : Ct := CtOf (S_require_filled cl)
/-- the key of the new item, or None; all marks -/
def keyD (w : Deed) (kk : Int) : D := if w.more = 1 then .int kk else .non
def allM (w : Deed) (ms : List Int) (kk : Int) : List Int := if w.more = 1 then ms ++ [kk] else ms
def S_deed_done (cl : Cl) : Sc := fun ds F R Φ => ∃ (w : Deed) (d : D) (ms : List Int) (kk : Int), ds = [.str w.str, d, keyD w kk] ∧ seqF d ms F ∧ ((w = .pop ∨ w = .replace → 0 < ms.length) ∧ ms.length ≤ 2500) ∧
  ∀ r s, Φ (.tup [.ref r, optD ((deedT w (List.range ms.length)).fin (allM w ms kk)).2, .ref s]) ((r, rowO ((deedT w (List.range ms.length)).fin (allM w ms kk)).1) :: (s, .lst ((((deedT w (List.range ms.length)).truth (allM w ms kk)).map pr).map qD)) :: (F ++ R))
def C_deed_done (cl : Cl) : Ct := CtOf (S_deed_done cl)
def g_deed_done__k0_keys_key_deed (ds es : List D) : List D := match ds, es with
  | [], [a, b, c] => [c, a, b]
  | _, _ => []
/-! the law of k87 -/
def wordsD : List D := [.str "heapify", .str "push", .str "pop", .str "replace", .str "pushpop"]
def S_law_words (cl : Cl) : Sc := fun ds F R Φ => ds = [] ∧ F = [] ∧ ∀ p, Φ (.ref p) ([(p, .lst wordsD)] ++ R)
def C__law_words (cl : Cl) : Ct := CtOf (S_law_words cl)
def S_law_fault (cl : Cl) : Sc := fun ds F R Φ => ∃ (q : Addr) (ms : List Int), ds = [.ref q] ∧ F = [(q, intsO ms)] ∧ ms.length ≤ 2500 ∧ Φ (optD (faultN ms)) (F ++ R)
def C__law_fault (cl : Cl) : Ct := CtOf (S_law_fault cl)
def S_law_keys (cl : Cl) : Sc := fun ds F R Φ => ∃ (p : Addr) (a b n N : Int) (many : Nat), ds = [.ref p, .int many] ∧ F = [(p, wellO a b n)] ∧ (many ≤ 2000 ∧ WellOk b n N ∧ N ≤ 900000000) ∧
  ∀ (q : Addr) (ms : List Int) (a' n' : Int), ms.length = many → WellOk b n' (N + 2100) → Φ (.ref q) ([(p, wellO a' b n'), (q, intsO ms)] ++ R)
def C__law_keys (cl : Cl) : Ct := CtOf (S_law_keys cl)
def S_law_right87 (cl : Cl) : Sc := fun ds F R Φ => ∃ (p q : Addr) (a b n N : Int) (w : Deed) (ms : List Int), ds = [.ref p, .str w.str, .ref q] ∧ F = [(p, wellO a b n), (q, intsO ms)] ∧ (ms.length ≤ 2000 ∧ WellOk b n N ∧ N ≤ 900000000) ∧
  ∀ (a' n' : Int), WellOk b n' (N + 2) → Φ (.bl true) ([(p, wellO a' b n')] ++ R)
def C__law_right (cl : Cl) : Ct := CtOf (S_law_right87 cl)
def S_law87 (cl : Cl) : Sc := fun ds F R Φ => ∃ (a : Addr) (ns : List Int), ds = [.ref a] ∧ F = [(a, .ro (ns.map .int))] ∧ ns.length ≤ 63 ∧ Φ (.bl true) ([(a, .ro (ns.map .int))] ++ R)
def C_law (cl : Cl) : Ct := CtOf (S_law87 cl)
end DL

/-! k88: contracts -/
namespace DL
open PySem PySem.Spec PyProof.Rows L2
/-- a list or a tuple of answers -/
def seqB (d : D) (as : List Bool) (F : LL) : Prop := (∃ q, d = .ref q ∧ F = [(q, .lst (as.map .bl))]) ∨ (d = .tup (as.map .bl) ∧ F = [])
def S_require_number (cl : Cl) : Sc := fun ds F R Φ => ∃ (x : Str) (v lo hi : Int), ds = [.str x, .int v, .int lo, .int hi] ∧ F = [] ∧ (lo ≤ v ∧ v ≤ hi) ∧ Φ .non R
def C_require_number (cl : Cl) : Ct := CtOf (S_require_number cl)
def S_require_answers (cl : Cl) : Sc := fun ds F R Φ => ∃ (d : D) (as : List Bool), ds = [d] ∧ seqB d as F ∧ as.length ≤ 100000 ∧ Φ .non (F ++ R)
def C_require_answers (cl : Cl) : Ct := CtOf (S_require_answers cl)
def S_Told_init (cl : Cl) : Sc := fun ds F R Φ => ∃ (h : Addr) (d : D) (as : List Bool) (Fq : LL), ds = [.ref h, d] ∧ F = (h, .ins cl.Told []) :: Fq ∧ seqB d as Fq ∧ ∀ mk la, Φ .non (askF cl (.told as) h mk la [] ++ Fq ++ R)
def C_Told___init__ (cl : Cl) : Ct := CtOf (S_Told_init cl)
/-- what deed_told tells -/
def toldOut (as : List Bool) (R : LL) (Φ : DK) (Ψ : XC) (res : Rs (List Nat × Option Nat)) : Prop := match res with
  | .ok a lg => if lg.length < as.length then ∀ p, Ψ .answers p ((p, .xd [(20, .int lg.length)]) :: R) else ∀ r s, Φ (.tup [.ref r, optD a.2, .non, .ref s]) ((r, rowO a.1) :: (s, .lst ((lg.map pr).map qD)) :: R)
  | .no st i j lg => ∀ r s, Φ (.tup [.ref r, .non, qD (i, j), .ref s]) ((r, rowO st) :: (s, .lst ((lg.map pr).map qD)) :: R)
def S_deed_told (cl : Cl) : ScX := fun ds F R Φ Ψ => ∃ (w : Deed) (many : Nat) (d : D) (as : List Bool), ds = [.str w.str, .int many, d] ∧ seqB d as F ∧ ((w = .pop ∨ w = .replace → 0 < many) ∧ many ≤ 2500 ∧ as.length ≤ 100000 ∧ (AK.told as).live cl) ∧
  toldOut as (F ++ R) Φ Ψ ((deedT w (List.range many)).ex (.told as) [])
def C_deed_told (cl : Cl) : CtX := CtOfX (S_deed_told cl)
end DL

namespace DL
open PySem PySem.Spec PyProof.Rows L2

def t_Told___init__ (cl : Cl) : TS' :=
  tAsg' (tTup' (tCons' (tCB' fList (tCons' (tVar' 1) (tNil'))) (tCons' (tLst' (tNil')) (tNil')))) (gTup' 2 (gCons' (gFld' cl.Told 2 (tVar' 0)) (gCons' (gFld' cl.Told 1 (tVar' 0)) (gNil'))))
-- self answers
def t_Told_less (cl : Cl) (W : XW) : TS' :=
  tSeq' (tIfS' (tTst' (tBin' fEq (tCB' fLen (tCons' (tFld' cl.Told 1 (tVar' 0)) (tNil'))) (tCB' fLen (tCons' (tFld' cl.Told 2 (tVar' 0)) (tNil'))))) (tRaise' W .paused 3 (tTup' (tCons' (tVar' 1) (tCons' (tVar' 2) (tNil'))))) (tNext'))
  (tSeq' (tAsg' (tBin' fIx (tFld' cl.Told 2 (tVar' 0)) (tCB' fLen (tCons' (tFld' cl.Told 1 (tVar' 0)) (tNil')))) (gName' 3))
  (tSeq' (tDrop' (tLM' fAppend (tFld' cl.Told 1 (tVar' 0)) (tCons' (tTup' (tCons' (tTup' (tCons' (tVar' 1) (tCons' (tVar' 2) (tNil')))) (tCons' (tVar' 3) (tNil')))) (tNil'))))
  (tRet' (tVar' 3))))
-- self one other is_less
def t_require_number (cl : Cl) : TS' :=
  tIfS' (tNot' (tTru' (tCall' (C_is_between cl) [] (tCons' (tVar' 1) (tCons' (tVar' 2) (tCons' (tVar' 3) (tNil'))))))) (tNever') (tNext')
-- name value low high
def t_require_answers (cl : Cl) : TS' :=
  tSeq' (tIfS' (tNot' (tTru' (tIsi2' .ls .tp (tVar' 0)))) (tNever') (tNext'))
  (tFor' (iEnumA' (tCons' (tVar' 0) (tNil'))) (gTup' 2 (gCons' (gName' 1) (gCons' (gName' 2) (gNil')))) (tIfS' (tNot' (tTru' (tIsi' .bl (tVar' 2)))) (tNever') (tNext')))
-- answers index answer
def t_deed_told_s6 (cl : Cl) (W : XW) : TS' :=
  tSeq' (tIfS' (tAnd' (tTst' (tBin' fIs (tVar' 7) (tC' .non))) (tTst' (tBin' fLt (tCB' fLen (tCons' (tFld' cl.Told 1 (tVar' 5)) (tNil'))) (tCB' fLen (tCons' (tVar' 2) (tNil')))))) (tRaise' W .answers 20 (tCB' fLen (tCons' (tFld' cl.Told 1 (tVar' 5)) (tNil')))) (tNext'))
  (tRet' (tTup' (tCons' (tVar' 4) (tCons' (tVar' 6) (tCons' (tVar' 7) (tCons' (tLc' (iSeq' (tFld' cl.Told 1 (tVar' 5))) (gTup' 2 (gCons' (gName' 8) (gCons' (gName' 9) (gNil')))) (tYes') (tVar' 8) [8, 9]) (tNil')))))))
def t_deed_told (cl : Cl) (W : XW) : TS' :=
  tSeq' (tDrop' (tCall' (C_require_deed cl) [] (tCons' (tVar' 0) (tNil'))))
  (tSeq' (tDrop' (tCall' (C_require_number cl) [] (tCons' (tC' (.str "many")) (tCons' (tVar' 1) (tCons' (tC' (.int 0)) (tCons' (tC' (.int 2500)) (tNil')))))))
  (tSeq' (tDrop' (tCall' (C_require_answers cl) [] (tCons' (tVar' 2) (tNil'))))
  (tSeq' (tDrop' (tCall' (C_require_filled cl) [] (tCons' (tVar' 0) (tCons' (tVar' 1) (tNil')))))
  (tSeq' (tAsg' (tTup' (tCons' (tLstRg1' (tVar' 1)) (tCons' (tMake' cl.Told (C_Told___init__ cl) [] (tCons' (tVar' 2) (tNil'))) (tCons' (tC' .non) (tCons' (tC' .non) (tNil')))))) (gTup' 4 (gCons' (gName' 4) (gCons' (gName' 5) (gCons' (gName' 6) (gCons' (gName' 7) (gNil')))))))
  (tSeq' (tTryAs' W cl.xts (fun C => decide (C = .paused)) 3 (fun W1 => tAsg' (tCallX' W1 (C_do_deed cl) [] (tCons' (tVar' 0) (tCons' (tVar' 4) (tCons' (tVar' 5) (tNil'))))) (gName' 6)) (fun a1 C1 d1 => tAsg' (tXf' a1 d1 3 (tVar' 3)) (gName' 7)))
  (tWk' (t_deed_told_s6 cl W)))))))
-- deed many answers pause row asker given question one answer
end DL

namespace DL
open PySem PySem.Spec PyProof.Rows L2
local macro_rules | `(tactic| walk_at "has") => `(tactic| first | exact Has.here | (apply Has.there; walk_at "has"))
local macro_rules | `(tactic| walk_at "hasl") => `(tactic| first | (refine Or.inl ?_; walk_at "has") | (refine Or.inr ?_; walk_at "has"))
local macro_rules | `(tactic| walk_at "sel") => `(tactic| first | exact Sel.here | (apply Sel.there; walk_at "sel"))
local macro_rules | `(tactic| walk_at "chg") => `(tactic| first | exact Chg.here | (apply Chg.there; walk_at "chg"))
local macro_rules | `(tactic| walk_at "pull") => `(tactic| first | exact Pull.nil | (apply Pull.cons; (walk_at "sel"); exact rfl; walk_at "pull"))
local macro_rules | `(tactic| walk_at "cov") => `(tactic| first | exact Cov.refl | (apply Cov.take; (walk_at "sel"); (first | exact rfl | assumption); walk_at "cov") | (apply Cov.take; (walk_at "sel"); rotate_left; walk_at "cov") | (refine Cov.drop ?_; walk_at "cov"))
local macro_rules | `(tactic| walk_at "sub") => `(tactic| first | exact Sub.nil | (refine Sub.same (by first | rfl | assumption) ?_; walk_at "sub") | (refine Sub.any ?_; walk_at "sub") | (refine Sub.same ?_ ?_; rotate_left; walk_at "sub"))
local macro_rules | `(tactic| walk_at "side") => `(tactic| first | assumption | (with_reducible rfl) | omega | (refine mulOk_r ?_ ?_ <;> first | omega | decide) | (refine mulOk_l ?_ ?_ <;> first | omega | decide) | (refine divOk_of ?_ ?_ <;> first | omega | decide) | (refine ⟨?_, ?_⟩ <;> walk_at "side") | rfl | (simp <;> omega) | decide)
local macro_rules | `(tactic| walk_at "kn") => `(tactic| first | assumption | decide | rfl)
local macro_rules | `(tactic| walk_at "br") => `(tactic| first | (with_reducible first | refine Br.t ?_ | refine Br.f ?_) | ((with_reducible refine Br.dec_t ?_ ?_); focus walk_at "kn") | ((with_reducible refine Br.dec_f ?_ ?_); focus walk_at "kn") | ((with_reducible refine Br.ndec_t ?_ ?_); focus walk_at "kn") | ((with_reducible refine Br.ndec_f ?_ ?_); focus walk_at "kn") | (with_reducible first | (refine Br.dec ?_ ?_ <;> intro _) | (refine Br.ndec ?_ ?_ <;> intro _)) | refine Br.t ?_ | refine Br.f ?_ | (with_reducible refine Br.mk ?_ ?_ <;> intro _))
local macro_rules | `(tactic| walk_at "st") => `(tactic| ((try (conv => whnf)); first
  | walk_at "br"
  | with_reducible (intro _)
  | (refine ⟨_, (by walk_at "has" : Has _ _ _), ?_⟩)
  | (refine ⟨_, (by walk_at "hasl" : HasL _ _ _), ?_⟩)
  | (refine ⟨_, _, (by walk_at "chg" : Chg _ _ _ _ _), ?_⟩)
  | (refine ⟨_, _, _, (by walk_at "chg" : Chg _ _ _ _ _), (by first | rfl | assumption : ixN _ _ = some _), ?_⟩)
  | (refine ⟨_, _, (by walk_at "sel" : Sel _ _ _ _), ?_⟩)
  | (refine ⟨_, _, _, (by walk_at "has" : Has _ _ _), (by assumption), ?_⟩)
  | (refine ⟨_, (by first | rfl | assumption : atI _ _ = some _), ?_⟩)
  | (refine And.intro (by walk_at "side") ?_)))
local macro_rules | `(tactic| walk_at "st2") => `(tactic| first | walk_at "st" | ((try (conv => whnf)); with_reducible refine And.intro ?_ ?_; rotate_left))
local macro_rules | `(tactic| walk_at "go") => `(tactic| first | ((try (conv => whnf)); walk_at "br" <;> walk_at "go") | (walk_at "st"; walk_at "go") | (conv => whnf) | skip)
theorem rd_require_number (cl : Cl) (ds : List D) (F R : LL) (Φ : DK) (h : S_require_number cl ds F R Φ) : t_require_number cl (endD Φ) (startD 4 ds) (F ++ R) := by
  obtain ⟨x, v, lo, hi, rfl, rfl, ⟨h1, h2⟩, h⟩ := h
  walk_at "go"
  refine ⟨[], R, .nil, v, lo, hi, rfl, rfl, ?_⟩
  have e : decide (lo ≤ v ∧ v ≤ hi) = true := decide_eq_true ⟨h1, h2⟩
  rw [e]
  walk_at "go"
  exact Ret.mk _ .refl h
theorem rd_require_answers (cl : Cl) (ds : List D) (F R : LL) (Φ : DK) (h : S_require_answers cl ds F R Φ) : t_require_answers cl (endD Φ) (startD 3 ds) (F ++ R) := by
  obtain ⟨d, as, rfl, hd, hz, h⟩ := h
  rcases hd with ⟨q, rfl, rfl⟩ | ⟨rfl, rfl⟩
  · walk_at "go"
    refine ForI.inv (α := Unit) (fun _ _ => [some (.ref q), none, none]) (fun _ _ => [(q, .lst (as.map .bl))] ++ R) (fun _ _ => True) () (by walk_at "sub") .refl trivial ?_ ?_
    · intro i x d hd _
      obtain ⟨e, he, rfl⟩ := enumD_get hd
      rw [List.getElem?_map] at he
      obtain ⟨k, _, rfl⟩ := Option.map_eq_some_iff.mp he
      refine ⟨by walk_at "hasl", ?_⟩
      walk_at "go"
      exact Nx1.mk () (by walk_at "sub") .refl trivial
    · intro x _
      refine ⟨by walk_at "hasl", ?_⟩
      exact Ret.mk _ .refl h
  · walk_at "go"
    refine ForI.inv (α := Unit) (fun _ _ => [some (.tup (as.map .bl)), none, none]) (fun _ _ => R) (fun _ _ => True) () (by walk_at "sub") .refl trivial ?_ ?_
    · intro i x d hd _
      obtain ⟨e, he, rfl⟩ := enumD_get hd
      rw [List.getElem?_map] at he
      obtain ⟨k, _, rfl⟩ := Option.map_eq_some_iff.mp he
      refine ⟨trivial, ?_⟩
      walk_at "go"
      exact Nx1.mk () (by walk_at "sub") .refl trivial
    · intro x _
      refine ⟨trivial, ?_⟩
      exact Ret.mk _ .refl h
theorem rd_Told_init (cl : Cl) (ds : List D) (F R : LL) (Φ : DK) (h : S_Told_init cl ds F R Φ) : t_Told___init__ cl (endD Φ) (startD 2 ds) (F ++ R) := by
  obtain ⟨a, d, as, Fq, rfl, rfl, hd, h⟩ := h
  rcases hd with ⟨q, rfl, rfl⟩ | ⟨rfl, rfl⟩
  · walk_at "go"
    rename_i mk la
    refine Ret.mk _ ?_ (h mk la)
    walk_at "cov"
  · walk_at "go"
    rename_i mk la
    refine Ret.mk _ ?_ (h mk la)
    walk_at "cov"
theorem rd_Told_less (cl : Cl) (ds : List D) (F R : LL) (Φ : DK) (Ψ : XC) (g : Addr) (P : Hp → Prop) (h : S_Told_less cl ds F R Φ Ψ) : t_Told_less cl (defW Ψ g P) (endD Φ) (startD 4 ds) (F ++ (g, .gh P) :: R) := by
  obtain ⟨a, mk, la, as, lg, i, j, rfl, rfl, ⟨h1, h2⟩, h⟩ := h
  walk_at "go"
  · rename_i hz p
    have hz : lg.length = as.length := by
      simp only [List.length_map] at hz
      exact Int.ofNat.inj hz
    rw [List.getElem?_eq_none (by omega)] at h
    refine RaiseTo.mk _ ?_ (h p)
    walk_at "cov"
  · rename_i hz
    have hz : lg.length < as.length := by
      have : ¬ lg.length = as.length := fun e => hz (by simp only [List.length_map]; rw [e])
      omega
    rw [List.getElem?_eq_getElem hz] at h
    refine ⟨.bl as[lg.length], ?_, ?_⟩
    · refine atI_of lg.length (by simp) ?_
      rw [List.getElem?_map, List.getElem?_eq_getElem hz]
      rfl
    walk_at "go"
    refine Ret.mk _ ?_ h
    walk_at "cov"
    simp [lgD]
end DL

namespace DL
open PySem PySem.Spec PyProof.Rows L2

def t_first_fault (cl : Cl) : TS' :=
  tSeq' (tFor' (iRng2' (tCons' (tC' (.int 1)) (tCons' (tCB' fLen (tCons' (tVar' 0) (tNil'))) (tNil')))) (gName' 1) (tIfS' (tTst' (tBin' fLt (tBin' fIx (tVar' 0) (tVar' 1)) (tBin' fIx (tVar' 0) (tBin' fFdiv (tBin' fSub (tVar' 1) (tC' (.int 1))) (tC' (.int 2)))))) (tRet' (tVar' 1)) (tNext')))
  (tRet' (tC' .non))
-- keys place
def t_heap_fault (cl : Cl) : TS' :=
  tSeq' (tDrop' (tCall' (C_require_keys cl) [] (tCons' (tVar' 0) (tCons' (tC' (.int 2500)) (tNil')))))
  (tRet' (tCall' (C_first_fault cl) [] (tCons' (tVar' 0) (tNil'))))
-- keys
def t_is_heap (cl : Cl) : TS' :=
  tRet' (tBin' fIs (tCall' (C_heap_fault cl) [] (tCons' (tVar' 0) (tNil'))) (tC' .non))
-- keys
def t_require_deed (cl : Cl) : TS' :=
  tIfS' (tOr' (tNot' (tTru' (tIsi' .st (tVar' 0)))) (tTst' (tBin' fNotIn (tVar' 0) (tC' (.tup [.str "heapify", .str "push", .str "pop", .str "replace", .str "pushpop"]))))) (tNever') (tNext')
-- deed
def t_require_filled (cl : Cl) : TS' :=
  tIfS' (tAnd' (tTst' (tBin' fEq (tVar' 1) (tC' (.int 0)))) (tTst' (tBin' fIn (tVar' 0) (tTup' (tCons' (tC' (.str "pop")) (tCons' (tC' (.str "replace")) (tNil'))))))) (tNever') (tNext')
-- deed many
def t_deed_done (cl : Cl) : TS' :=
  tSeq' (tDrop' (tCall' (C_require_deed cl) [] (tCons' (tVar' 0) (tNil'))))
  (tSeq' (tDrop' (tCall' (C_require_keys cl) [] (tCons' (tVar' 1) (tCons' (tC' (.int 2500)) (tNil')))))
  (tSeq' (tIfS' (tIfT' (tTst' (tBin' fIn (tVar' 0) (tC' (.tup [.str "heapify", .str "pop"])))) (tTst' (tBin' fIsNot (tVar' 2) (tC' .non))) (tNot' (tTru' (tCall' (C_is_integer cl) [] (tCons' (tVar' 2) (tNil')))))) (tNever') (tNext'))
  (tSeq' (tDrop' (tCall' (C_require_filled cl) [] (tCons' (tVar' 0) (tCons' (tCB' fLen (tCons' (tVar' 1) (tNil'))) (tNil')))))
  (tSeq' (tPar' 4 5 (tCons' (tLstRg1' (tCB' fLen (tCons' (tVar' 1) (tNil')))) (tCons' (tMake' cl.Honest (C_Honest___init__ cl) [] (tCons' (tBin' fAdd (tCB' fList (tCons' (tVar' 1) (tNil'))) (tLst' (tCons' (tVar' 2) (tNil')))) (tNil'))) (tNil'))))
  (tSeq' (tAsg' (tCallX' XW.no (C_do_deed cl) [] (tCons' (tVar' 0) (tCons' (tVar' 4) (tCons' (tVar' 5) (tNil'))))) (gName' 3))
  (tRet' (tTup' (tCons' (tVar' 4) (tCons' (tVar' 3) (tCons' (tLc' (iSeq' (tFld' cl.Honest 1 (tVar' 5))) (gTup' 2 (gCons' (gName' 6) (gCons' (gName' 7) (gNil')))) (tYes') (tVar' 6) [6, 7]) (tNil')))))))))))
-- deed keys key given row asker question answer
def t__law_words (cl : Cl) : TS' :=
  tRet' (tLst' (tCons' (tC' (.str "heapify")) (tCons' (tC' (.str "push")) (tCons' (tC' (.str "pop")) (tCons' (tC' (.str "replace")) (tCons' (tC' (.str "pushpop")) (tNil')))))))
-- 
def t__law_fault (cl : Cl) : TS' :=
  tSeq' (tFor' (iRng1' (tCons' (tCB' fLen (tCons' (tVar' 0) (tNil'))) (tNil'))) (gName' 1) (tFor' (iSeq' (tTup' (tCons' (tBin' fAdd (tBin' fMul (tC' (.int 2)) (tVar' 1)) (tC' (.int 1))) (tCons' (tBin' fAdd (tBin' fMul (tC' (.int 2)) (tVar' 1)) (tC' (.int 2))) (tNil'))))) (gName' 2) (tIfS' (tAnd' (tTst' (tBin' fLt (tVar' 2) (tCB' fLen (tCons' (tVar' 0) (tNil'))))) (tTst' (tBin' fLt (tBin' fIx (tVar' 0) (tVar' 2)) (tBin' fIx (tVar' 0) (tVar' 1))))) (tRet' (tVar' 2)) (tNext'))))
  (tRet' (tC' .non))
-- marks at below
def t__law_keys (cl : Cl) : TS' :=
  tSeq' (tAsg' (tTup' (tCons' (tCall' (C__law_pick cl) [] (tCons' (tVar' 0) (tCons' (tLst' (tCons' (tC' (.int 1)) (tCons' (tC' (.int 2)) (tCons' (tC' (.int 3)) (tCons' (tC' (.int 9)) (tCons' (tBin' fPow (tC' (.int 10)) (tC' (.int 30))) (tNil'))))))) (tNil')))) (tCons' (tCall' (C__law_draw cl) [] (tCons' (tVar' 0) (tCons' (tC' (.int 4)) (tNil')))) (tNil')))) (gTup' 2 (gCons' (gName' 3) (gCons' (gName' 4) (gNil')))))
  (tSeq' (tAsg' (tLc' (iRng1' (tCons' (tVar' 1) (tNil'))) (gName' 6) (tYes') (tBin' fSub (tCall' (C__law_draw cl) [] (tCons' (tVar' 0) (tCons' (tVar' 3) (tNil')))) (tC' (.int 1))) [6]) (gName' 2))
  (tSeq' (tIfS' (tTst' (tBin' fEq (tVar' 4) (tC' (.int 0)))) (tRet' (tCB' fSorted (tCons' (tVar' 2) (tNil')))) (tNext'))
  (tSeq' (tIfS' (tTst' (tBin' fEq (tVar' 4) (tC' (.int 1)))) (tRet' (tRevL' (tCB' fSorted (tCons' (tVar' 2) (tNil'))))) (tNext'))
  (tSeq' (tIfS' (tTst' (tBin' fEq (tVar' 4) (tC' (.int 2)))) (tSeq' (tAsg' (tBin' fIx (tCall' (C__law_honest cl) [] (tCons' (tC' (.str "heapify")) (tCons' (tVar' 2) (tNil')))) (tC' (.int 0))) (gName' 5))
  (tRet' (tLc' (iSeq' (tVar' 5)) (gName' 6) (tYes') (tBin' fIx (tVar' 2) (tVar' 6)) [6]))) (tNext'))
  (tRet' (tVar' 2))))))
-- well many found high way order item
def t__law_right_s5 (cl : Cl) : TS' :=
  tSeq' (tAsg' (tCall' (C_deed_done cl) [] (tCons' (tVar' 1) (tCons' (tVar' 2) (tCons' (tVar' 4) (tNil'))))) (gName' 7))
  (tSeq' (tIfS' (tOr' (tTst' (tBin' fNe (tVar' 7) (tVar' 6))) (tOr' (tNot' (tTru' (tIsi' .tp (tVar' 7)))) (tTst' (tBin' fNe (tVar' 2) (tVar' 5))))) (tRet' (tC' (.bl false))) (tNext'))
  (tSeq' (tDrop' (tLM' fAppend (tBin' fIx (tVar' 7) (tC' (.int 0))) (tCons' (tC' .non) (tNil'))))
  (tSeq' (tDrop' (tLM' fAppend (tBin' fIx (tVar' 7) (tC' (.int 2))) (tCons' (tC' .non) (tNil'))))
  (tSeq' (tIfS' (tTst' (tBin' fNe (tCallK0' 3 g_deed_done__k0_keys_key_deed (C_deed_done cl) (tCons' (tCB' fTuple (tCons' (tVar' 2) (tNil'))) (tCons' (tVar' 4) (tCons' (tVar' 1) (tNil'))))) (tVar' 6))) (tRet' (tC' (.bl false))) (tNext'))
  (tRet' (tAndV' (tBin' fEq (tCall' (C_heap_fault cl) [] (tCons' (tVar' 2) (tNil'))) (tCall' (C__law_fault cl) [] (tCons' (tVar' 2) (tNil')))) (tBin' fEq (tCall' (C_is_heap cl) [] (tCons' (tCB' fTuple (tCons' (tVar' 2) (tNil'))) (tNil'))) (tBin' fIs (tCall' (C__law_fault cl) [] (tCons' (tVar' 2) (tNil'))) (tC' .non)))))))))
def t__law_right_s3 (cl : Cl) : TS' :=
  tSeq' (tAsg' (tCB' fList (tCons' (tVar' 2) (tNil'))) (gName' 5))
  (tSeq' (tAsg' (tCall' (C__law_honest cl) [] (tCons' (tVar' 1) (tCons' (tIf' (tTru' (tVar' 3)) (tVar' 2) (tBin' fAdd (tVar' 2) (tLst' (tCons' (tVar' 4) (tNil'))))) (tNil')))) (gName' 6))
  (tWk' (t__law_right_s5 cl)))
def t__law_right_s2 (cl : Cl) : TS' :=
  tSeq' (tAsg' (tIf' (tTru' (tVar' 3)) (tC' .non) (tCall' (C__law_pick cl) [] (tCons' (tVar' 0) (tCons' (tLst' (tCons' (tC' (.int 0)) (tCons' (tC' (.int 1)) (tCons' (tNeg' (tC' (.int 2))) (tCons' (tBin' fPow (tC' (.int 10)) (tC' (.int 30))) (tCons' (tCall' (C__law_draw cl) [] (tCons' (tVar' 0) (tCons' (tC' (.int 9)) (tNil')))) (tNil'))))))) (tNil'))))) (gName' 4))
  (tWk' (t__law_right_s3 cl))
def t__law_right (cl : Cl) : TS' :=
  tSeq' (tAsg' (tBin' fIn (tVar' 1) (tTup' (tCons' (tC' (.str "heapify")) (tCons' (tC' (.str "pop")) (tNil'))))) (gName' 3))
  (tSeq' (tIfS' (tAnd' (tTst' (tBin' fEq (tVar' 2) (tLst' (tNil')))) (tTst' (tBin' fIn (tVar' 1) (tTup' (tCons' (tC' (.str "pop")) (tCons' (tC' (.str "replace")) (tNil'))))))) (tAsg' (tLst' (tCons' (tC' (.int 4)) (tNil'))) (gName' 2)) (tNext'))
  (tWk' (t__law_right_s2 cl)))
-- well word marks is_bare mark handed due found
def t_law (cl : Cl) : TS' :=
  tSeq' (tIfS' (tOr' (tNot' (tTru' (tCall' (C_is_heap cl) [] (tCons' (tLstRg1' (tC' (.int 2500))) (tNil'))))) (tTst' (tBin' fNe (tCall' (C_heap_fault cl) [] (tCons' (tBin' fAdd (tLstRg1' (tC' (.int 2499))) (tLst' (tCons' (tNeg' (tC' (.int 1))) (tNil')))) (tNil'))) (tC' (.int 2499))))) (tRet' (tC' (.bl false))) (tNext'))
  (tSeq' (tFor' (iEnumA' (tCons' (tBin' fAdd (tSl' (tVar' 0) (tNoPart') (tPart' (tC' (.int 12)))) (tLst' (tCons' (tC' (.int 0)) (tCons' (tC' (.int 1)) (tNil'))))) (tNil'))) (gTup' 2 (gCons' (gName' 1) (gCons' (gName' 2) (gNil')))) (tSeq' (tAsg' (tCall' (C__law_well cl) [] (tCons' (tVar' 2) (tNil'))) (gName' 3))
  (tFor' (iSeq' (tCall0' (C__law_words cl) [])) (gName' 4) (tSeq' (tAsg' (tCall' (C__law_pick cl) [] (tCons' (tVar' 3) (tCons' (tLst' (tCons' (tC' (.int 0)) (tCons' (tC' (.int 1)) (tCons' (tC' (.int 2)) (tCons' (tC' (.int 3)) (tCons' (tC' (.int 4)) (tCons' (tC' (.int 7)) (tCons' (tC' (.int 8)) (tCons' (tCall' (C__law_draw cl) [] (tCons' (tVar' 3) (tCons' (tC' (.int 21)) (tNil')))) (tNil')))))))))) (tNil')))) (gName' 5))
  (tSeq' (tIfS' (tAnd' (tTst' (tBin' fEq (tVar' 1) (tC' (.int 0)))) (tTst' (tBin' fIn (tVar' 4) (tTup' (tCons' (tC' (.str "heapify")) (tCons' (tC' (.str "pop")) (tNil'))))))) (tAsg' (tBin' fAdd (tC' (.int 50)) (tCall' (C__law_draw cl) [] (tCons' (tVar' 3) (tCons' (tC' (.int 81)) (tNil'))))) (gName' 5)) (tNext'))
  (tIfS' (tNot' (tTru' (tCall' (C__law_right cl) [] (tCons' (tVar' 3) (tCons' (tVar' 4) (tCons' (tCall' (C__law_keys cl) [] (tCons' (tVar' 3) (tCons' (tVar' 5) (tNil')))) (tNil'))))))) (tRet' (tC' (.bl false))) (tNext')))))))
  (tRet' (tC' (.bl true))))
-- script at cell well word many
end DL

namespace DL
open PySem PySem.Spec PyProof.Rows L2
local macro_rules | `(tactic| walk_at "has") => `(tactic| first | exact Has.here | (apply Has.there; walk_at "has"))
local macro_rules | `(tactic| walk_at "hasl") => `(tactic| first | (refine Or.inl ?_; walk_at "has") | (refine Or.inr ?_; walk_at "has"))
local macro_rules | `(tactic| walk_at "sel") => `(tactic| first | exact Sel.here | (apply Sel.there; walk_at "sel"))
local macro_rules | `(tactic| walk_at "chg") => `(tactic| first | exact Chg.here | (apply Chg.there; walk_at "chg"))
local macro_rules | `(tactic| walk_at "pull") => `(tactic| first | exact Pull.nil | (apply Pull.cons; (walk_at "sel"); exact rfl; walk_at "pull"))
local macro_rules | `(tactic| walk_at "cov") => `(tactic| first | exact Cov.refl | (apply Cov.take; (walk_at "sel"); (first | exact rfl | assumption); walk_at "cov") | (apply Cov.take; (walk_at "sel"); rotate_left; walk_at "cov") | (refine Cov.drop ?_; walk_at "cov"))
local macro_rules | `(tactic| walk_at "sub") => `(tactic| first | exact Sub.nil | (refine Sub.same (by first | rfl | assumption) ?_; walk_at "sub") | (refine Sub.any ?_; walk_at "sub") | (refine Sub.same ?_ ?_; rotate_left; walk_at "sub"))
local macro_rules | `(tactic| walk_at "side") => `(tactic| first | assumption | (with_reducible rfl) | omega | (refine mulOk_r ?_ ?_ <;> first | omega | decide) | (refine mulOk_l ?_ ?_ <;> first | omega | decide) | (refine divOk_of ?_ ?_ <;> first | omega | decide) | (refine ⟨?_, ?_⟩ <;> walk_at "side") | rfl | (simp <;> omega) | decide)
local macro_rules | `(tactic| walk_at "kn") => `(tactic| first | assumption | decide | rfl)
local macro_rules | `(tactic| walk_at "br") => `(tactic| first | (with_reducible first | refine Br.t ?_ | refine Br.f ?_) | ((with_reducible refine Br.dec_t ?_ ?_); focus walk_at "kn") | ((with_reducible refine Br.dec_f ?_ ?_); focus walk_at "kn") | ((with_reducible refine Br.ndec_t ?_ ?_); focus walk_at "kn") | ((with_reducible refine Br.ndec_f ?_ ?_); focus walk_at "kn") | (with_reducible first | (refine Br.dec ?_ ?_ <;> intro _) | (refine Br.ndec ?_ ?_ <;> intro _)) | refine Br.t ?_ | refine Br.f ?_ | (with_reducible refine Br.mk ?_ ?_ <;> intro _))
local macro_rules | `(tactic| walk_at "st") => `(tactic| ((try (conv => whnf)); first
  | walk_at "br"
  | with_reducible (intro _)
  | (refine ⟨_, (by walk_at "has" : Has _ _ _), ?_⟩)
  | (refine ⟨_, (by walk_at "hasl" : HasL _ _ _), ?_⟩)
  | (refine ⟨_, _, (by walk_at "chg" : Chg _ _ _ _ _), ?_⟩)
  | (refine ⟨_, _, _, (by walk_at "chg" : Chg _ _ _ _ _), (by first | rfl | assumption : ixN _ _ = some _), ?_⟩)
  | (refine ⟨_, _, (by walk_at "sel" : Sel _ _ _ _), ?_⟩)
  | (refine ⟨_, _, _, (by walk_at "has" : Has _ _ _), (by assumption), ?_⟩)
  | (refine ⟨_, (by first | rfl | assumption : atI _ _ = some _), ?_⟩)
  | (refine And.intro (by walk_at "side") ?_)))
local macro_rules | `(tactic| walk_at "st2") => `(tactic| first | walk_at "st" | ((try (conv => whnf)); with_reducible refine And.intro ?_ ?_; rotate_left))
local macro_rules | `(tactic| walk_at "go") => `(tactic| first | ((try (conv => whnf)); walk_at "br" <;> walk_at "go") | (walk_at "st"; walk_at "go") | (conv => whnf) | skip)
theorem call_reqkeys {cl : Cl} {L R : LL} {Φ : DK} {d : D} {ms : List Int} {F : LL} (most : Int) (hp : Pull L F R) (hd : seqF d ms F) (h1 : (ms.length : Int) ≤ most) (k : Φ .non (F ++ R)) : CtOf (S_require_keys cl) [d, .int most] L Φ :=
  ⟨_, _, hp, d, ms, most, rfl, hd, h1, k⟩
theorem rd_first_fault (cl : Cl) (ds : List D) (F R : LL) (Φ : DK) (h : S_first_fault cl ds F R Φ) : t_first_fault cl (endD Φ) (startD 2 ds) (F ++ R) := by
  obtain ⟨d, ms, rfl, hd, hz, h⟩ := h
  have hlen : ((ms.map D.int).length : Int) = ms.length := by simp
  have core : ∀ i : Nat, i < (((ms.map D.int).length : Int) - 1).toNat → (i + 1 < ms.length ∧ (1 : Int) + i = ((i + 1 : Nat) : Int) ∧ ((1 : Int) + i - 1) / 2 = ((i / 2 : Nat) : Int) ∧ i / 2 < ms.length) := by
    intro i hi
    refine ⟨by omega, by omega, by omega, by omega⟩
  have fin : ∀ (n : Nat) , (∀ q, q ≤ n → badN ms q = false) → ms.length ≤ n + 1 → faultN ms = none := fun n h1 h2 => faultN_none fun q hq => h1 q (by omega)
  have hit : ∀ i : Nat, i + 1 < ms.length → (∀ q, q ≤ i → badN ms q = false) → ms.getD (i + 1) 0 < ms.getD (i / 2) 0 → faultN ms = some (i + 1) := fun i h1 h2 h3 => faultN_some h1 (by simp [badN, keyN]; exact h3) fun q hq => h2 q (by omega)
  have more : ∀ i : Nat, (∀ q, q ≤ i → badN ms q = false) → ¬ ms.getD (i + 1) 0 < ms.getD (i / 2) 0 → ∀ q, q ≤ i + 1 → badN ms q = false := fun i h2 h3 q hq => by
    rcases Nat.lt_or_ge q (i + 1) with h | h
    · exact h2 q (by omega)
    · have : q = i + 1 := by omega
      subst this
      simp [badN, keyN]
      simpa using h3
  have start : ∀ q, q ≤ 0 → badN ms q = false := fun q hq => by
    have : q = 0 := by omega
    subst this
    rfl
  rcases hd with ⟨q, rfl, rfl⟩ | ⟨rfl, rfl⟩
  · walk_at "go"
    refine ForI.inv (α := Unit) (fun _ _ => [some (.ref q), none]) (fun _ _ => (q, intsO ms) :: R) (fun i _ => ∀ p, p ≤ i → badN ms p = false) () (by walk_at "sub") .refl start ?_ ?_
    · intro i _ d hd hi
      obtain ⟨hi2, rfl⟩ := rgD_get hd
      obtain ⟨c1, c2, c3, c4⟩ := core i hi2
      refine ⟨trivial, ?_⟩
      walk_at "go"
      refine ⟨_, atI_int (i + 1) c2 c1, ?_⟩
      walk_at "go"
      refine ⟨_, atI_int (i / 2) c3 c4, ?_⟩
      walk_at "go"
      · rename_i z
        rw [hit i c1 hi z] at h
        refine Ret.int ?_ h (by omega)
        walk_at "cov"
      · rename_i z
        exact Nx1.mk () (by walk_at "sub") (by walk_at "cov") (more i hi z)
    · intro _ hi
      refine ⟨trivial, ?_⟩
      walk_at "go"
      rw [rgD_length] at hi
      rw [fin _ hi (by omega)] at h
      exact Ret.mk _ .refl h
  · walk_at "go"
    refine ForI.inv (α := Unit) (fun _ _ => [some (.tup (ms.map .int)), none]) (fun _ _ => R) (fun i _ => ∀ p, p ≤ i → badN ms p = false) () (by walk_at "sub") .refl start ?_ ?_
    · intro i _ d hd hi
      obtain ⟨hi2, rfl⟩ := rgD_get hd
      obtain ⟨c1, c2, c3, c4⟩ := core i hi2
      refine ⟨trivial, ?_⟩
      walk_at "go"
      refine ⟨_, atI_int (i + 1) c2 c1, ?_⟩
      walk_at "go"
      refine ⟨_, atI_int (i / 2) c3 c4, ?_⟩
      walk_at "go"
      · rename_i z
        rw [hit i c1 hi z] at h
        exact Ret.int .refl h (by omega)
      · rename_i z
        exact Nx1.mk () (by walk_at "sub") .refl (more i hi z)
    · intro _ hi
      refine ⟨trivial, ?_⟩
      walk_at "go"
      rw [rgD_length] at hi
      rw [fin _ hi (by omega)] at h
      exact Ret.mk _ .refl h
theorem rd_heap_fault (cl : Cl) (ds : List D) (F R : LL) (Φ : DK) (h : S_heap_fault cl ds F R Φ) : t_heap_fault cl (endD Φ) (startD 1 ds) (F ++ R) := by
  obtain ⟨d, ms, rfl, hd, hz, h⟩ := h
  rcases hd with ⟨q, rfl, rfl⟩ | ⟨rfl, rfl⟩
  · walk_at "go"
    refine call_reqkeys (F := [(q, intsO ms)]) 2500 (by walk_at "pull") (.inl ⟨q, rfl, rfl⟩) (by omega) ?_
    walk_at "go"
    refine CtOf.mk [(q, intsO ms)] _ (by walk_at "pull") ⟨_, ms, rfl, .inl ⟨q, rfl, rfl⟩, by omega, ?_⟩
    walk_at "go"
    exact Ret.mk _ .refl h
  · walk_at "go"
    refine call_reqkeys (F := []) 2500 (by walk_at "pull") (.inr ⟨rfl, rfl⟩) (by omega) ?_
    walk_at "go"
    refine CtOf.mk [] _ (by walk_at "pull") ⟨_, ms, rfl, .inr ⟨rfl, rfl⟩, by omega, ?_⟩
    walk_at "go"
    exact Ret.mk _ .refl h
theorem isNon_opt (o : Option Nat) : isNon (optD o) = o.isNone := by cases o <;> rfl
theorem rd_is_heap (cl : Cl) (ds : List D) (F R : LL) (Φ : DK) (h : S_is_heap cl ds F R Φ) : t_is_heap cl (endD Φ) (startD 1 ds) (F ++ R) := by
  obtain ⟨d, ms, rfl, hd, hz, h⟩ := h
  have go : ∀ F', Pull (F ++ R) F' R → seqF d ms F' → F' = F → CtOf (S_heap_fault cl) [d] (F ++ R) (fun d L => Ret L (Φ (.bl (isNon d)))) := fun F' hp hs e => by
    subst e
    refine ⟨_, _, hp, d, ms, rfl, hs, hz, ?_⟩
    show Ret _ (Φ (.bl (isNon (optD (faultN ms)))))
    rw [isNon_opt]
    exact Ret.mk _ .refl h
  rcases hd with ⟨q, rfl, rfl⟩ | ⟨rfl, rfl⟩
  · walk_at "go"
    exact go _ (by walk_at "pull") (.inl ⟨q, rfl, rfl⟩) rfl
  · walk_at "go"
    exact go _ (by walk_at "pull") (.inr ⟨rfl, rfl⟩) rfl
theorem rd_require_deed (cl : Cl) (ds : List D) (F R : LL) (Φ : DK) (h : S_require_deed cl ds F R Φ) : t_require_deed cl (endD Φ) (startD 1 ds) (F ++ R) := by
  obtain ⟨w, rfl, rfl, h⟩ := h
  have hin : inD (.str w.str) [.str "heapify", .str "push", .str "pop", .str "replace", .str "pushpop"] = true := by cases w <;> decide +kernel
  walk_at "go"
  · rename_i z
    rw [hin] at z
    cases z
  · exact Ret.mk _ .refl h
theorem rd_require_filled (cl : Cl) (ds : List D) (F R : LL) (Φ : DK) (h : S_require_filled cl ds F R Φ) : t_require_filled cl (endD Φ) (startD 2 ds) (F ++ R) := by
  obtain ⟨w, n, rfl, rfl, h1, h⟩ := h
  have hin : inD (.str w.str) [.str "pop", .str "replace"] = decide (w = .pop ∨ w = .replace) := by cases w <;> decide +kernel
  walk_at "go"
  · rename_i z
    rw [hin] at z
    have := h1 (of_decide_eq_true z)
    omega
  · exact Ret.mk _ .refl h
  · exact Ret.mk _ .refl h
end DL

namespace DL
open PySem PySem.Spec PyProof.Rows L2
local macro_rules | `(tactic| walk_at "has") => `(tactic| first | exact Has.here | (apply Has.there; walk_at "has"))
local macro_rules | `(tactic| walk_at "hasl") => `(tactic| first | (refine Or.inl ?_; walk_at "has") | (refine Or.inr ?_; walk_at "has"))
local macro_rules | `(tactic| walk_at "sel") => `(tactic| first | exact Sel.here | (apply Sel.there; walk_at "sel"))
local macro_rules | `(tactic| walk_at "chg") => `(tactic| first | exact Chg.here | (apply Chg.there; walk_at "chg"))
local macro_rules | `(tactic| walk_at "pull") => `(tactic| first | exact Pull.nil | (apply Pull.cons; (walk_at "sel"); exact rfl; walk_at "pull"))
local macro_rules | `(tactic| walk_at "cov") => `(tactic| first | exact Cov.refl | (apply Cov.take; (walk_at "sel"); (first | exact rfl | assumption); walk_at "cov") | (apply Cov.take; (walk_at "sel"); rotate_left; walk_at "cov") | (refine Cov.drop ?_; walk_at "cov"))
local macro_rules | `(tactic| walk_at "sub") => `(tactic| first | exact Sub.nil | (refine Sub.same (by first | rfl | assumption) ?_; walk_at "sub") | (refine Sub.any ?_; walk_at "sub") | (refine Sub.same ?_ ?_; rotate_left; walk_at "sub"))
local macro_rules | `(tactic| walk_at "side") => `(tactic| first | assumption | (with_reducible rfl) | omega | (refine mulOk_r ?_ ?_ <;> first | omega | decide) | (refine mulOk_l ?_ ?_ <;> first | omega | decide) | (refine divOk_of ?_ ?_ <;> first | omega | decide) | (refine ⟨?_, ?_⟩ <;> walk_at "side") | rfl | (simp <;> omega) | decide)
local macro_rules | `(tactic| walk_at "kn") => `(tactic| first | assumption | decide | rfl)
local macro_rules | `(tactic| walk_at "br") => `(tactic| first | (with_reducible first | refine Br.t ?_ | refine Br.f ?_) | ((with_reducible refine Br.dec_t ?_ ?_); focus walk_at "kn") | ((with_reducible refine Br.dec_f ?_ ?_); focus walk_at "kn") | ((with_reducible refine Br.ndec_t ?_ ?_); focus walk_at "kn") | ((with_reducible refine Br.ndec_f ?_ ?_); focus walk_at "kn") | (with_reducible first | (refine Br.dec ?_ ?_ <;> intro _) | (refine Br.ndec ?_ ?_ <;> intro _)) | refine Br.t ?_ | refine Br.f ?_ | (with_reducible refine Br.mk ?_ ?_ <;> intro _))
local macro_rules | `(tactic| walk_at "st") => `(tactic| ((try (conv => whnf)); first
  | walk_at "br"
  | with_reducible (intro _)
  | (refine ⟨_, (by walk_at "has" : Has _ _ _), ?_⟩)
  | (refine ⟨_, (by walk_at "hasl" : HasL _ _ _), ?_⟩)
  | (refine ⟨_, _, (by walk_at "chg" : Chg _ _ _ _ _), ?_⟩)
  | (refine ⟨_, _, _, (by walk_at "chg" : Chg _ _ _ _ _), (by first | rfl | assumption : ixN _ _ = some _), ?_⟩)
  | (refine ⟨_, _, (by walk_at "sel" : Sel _ _ _ _), ?_⟩)
  | (refine ⟨_, _, _, (by walk_at "has" : Has _ _ _), (by assumption), ?_⟩)
  | (refine ⟨_, (by first | rfl | assumption : atI _ _ = some _), ?_⟩)
  | (refine And.intro (by walk_at "side") ?_)))
local macro_rules | `(tactic| walk_at "st2") => `(tactic| first | walk_at "st" | ((try (conv => whnf)); with_reducible refine And.intro ?_ ?_; rotate_left))
local macro_rules | `(tactic| walk_at "go") => `(tactic| first | ((try (conv => whnf)); walk_at "br" <;> walk_at "go") | (walk_at "st"; walk_at "go") | (conv => whnf) | skip)
theorem more_or (w : Deed) : w.more = 0 ∨ w.more = 1 := by cases w <;> simp [Deed.more]
/-- the questions of a log -/
theorem logQ {L : LL} {st : LL → Prop} {vs : List Nat} {p : Addr} {σ : Sl} {Φ : DK} (lg : Log) (i j : Nat) (hz : lg.length ≤ 1000000) (hs : ∀ acc, st ((p, .lst acc) :: L)) (hij : i ≠ j) (h1 : i < (wipeD σ vs).length)
    (h2 : j < (wipeD σ vs).length) (done : Φ (.ref p) ((p, .lst ((lg.map pr).map qD)) :: L)) : LcI (lg.map lgD) st (gTup' 2 (gCons' (gName' i) (gCons' (gName' j) gNil'))) tYes' (tVar' i) vs p σ L Φ := by
  have aux : ∀ (σ : Sl) (k : Nat) (d : D) (P : D → Prop), k < σ.length → P d → Nth (σ.set k (some d)) k P := by
    intro σ
    induction σ with
    | nil => intro k d P h _; simp at h
    | cons x σ ih =>
      intro k d P h hp
      cases k with
      | zero => exact hp
      | succ k =>
        cases x with
        | none => exact ih k d P (by simpa using h) hp
        | some x => exact ih k d P (by simpa using h) hp
  refine LcI.pure (xs := lg) (toD := lgD) (out := fun e => qD (pr e)) rfl hs hz ?_ ?_
  · intro e _ acc Ψ hk
    refine ⟨rfl, ?_⟩
    show Nth ((((wipeD σ vs).set i (some (.tup [.int e.1, .int e.2.1]))).set j (some (.bl e.2.2)))) i _
    rw [List.set_comm _ _ hij]
    exact aux _ _ _ _ (by rw [List.length_set]; exact h1) (hk _ .refl)
  · rw [List.map_map] at done
    exact done
theorem done_core {cl : Cl} {Φ : DK} {R : LL} {w : Deed} {am : List Int} {x : List D} {n : Nat} {r s mk la : Addr} (hok : DeedOk w (.hon am x) (List.range n)) (hn : n ≤ 2500) (hp : w = .pop ∨ w = .replace → 0 < n) {L : LL} (hL : Pull L ((r, rowO (List.range n)) :: askF cl (.hon am x) s mk la []) R)
    (h : Φ (optD ((deedT w (List.range n)).fin am).2) ((r, rowO ((deedT w (List.range n)).fin am).1) :: (askF cl (.hon am x) s mk la ((deedT w (List.range n)).truth am) ++ R))) : CtOfX (S_do_deed cl) [.str w.str, .ref r, .ref s] L Φ (fun _ _ _ => False) := by
  refine ⟨_, _, hL, w, r, s, mk, la, .hon am x, List.range n, [], rfl, rfl, ⟨hok, ⟨trivial, trivial⟩, ?_⟩, ?_⟩
  · have := deedT_depth (w := w) (row := List.range n) (by simpa using hp) (by simp; omega)
    simp at this ⊢
    omega
  · rw [Tr.ex_hon]
    show Φ _ _
    simpa using h
theorem range_dn (n : Nat) : rgD 0 n = (List.range n).map dn := by
  unfold rgD dn
  simp
theorem rd_deed_done (cl : Cl) (ds : List D) (F R : LL) (Φ : DK) (h : S_deed_done cl ds F R Φ) : t_deed_done cl (endD Φ) (startD 8 ds) (F ++ R) := by
  obtain ⟨w, d, ms, kk, rfl, hd, ⟨h1, h2⟩, h⟩ := h
  have hin : inD (.str w.str) [.str "heapify", .str "pop"] = decide (w.more = 0) := by cases w <;> decide +kernel
  have hT := Tr.truth_depth (allM w ms kk) (deedT w (List.range ms.length))
  have hT2 := deedT_depth (w := w) (row := List.range ms.length) (by simpa using h1) (by simp; omega)
  rw [List.length_range] at hT2
  have hlen : ((ms.map D.int).length : Int) = ms.length := by simp
  rcases more_or w with hm | hm
  · have ek : keyD w kk = .non := by unfold keyD; rw [if_neg (by omega)]
    have ea : allM w ms kk = ms := by unfold allM; rw [if_neg (by omega)]
    have hok : DeedOk w (.hon ms [.non]) (List.range ms.length) := deedOk_range (by omega) h1 h2
    rw [ea] at h hT
    rw [ek]
    rcases hd with ⟨q, rfl, rfl⟩ | ⟨rfl, rfl⟩
    · walk_at "go"
      refine CtOf.mk [] _ .nil ⟨w, rfl, rfl, ?_⟩
      walk_at "go"
      refine call_reqkeys (F := [(q, intsO ms)]) 2500 (by walk_at "pull") (.inl ⟨q, rfl, rfl⟩) (by omega) ?_
      walk_at "go"
      · refine CtOf.mk [] _ .nil ⟨w, ms.length, by rw [hlen]; rfl, rfl, h1, ?_⟩
        walk_at "go"
        rename_i r s x1 x2 x3
  
        refine CtOf.mk [(x3, .ins cl.Honest []), (x2, .lst (ms.map D.int ++ [D.non]))] _ (by walk_at "pull") ⟨x3, .ref x2, (ms.map D.int ++ [D.non]), [(x2, .lst (ms.map D.int ++ [D.non]))], rfl, rfl, .inl ⟨x2, rfl, rfl⟩, ?_⟩
        intro mk la
        walk_at "go"
        rw [hlen, range_dn]
        refine done_core hok h2 h1 (by walk_at "pull") ?_
        walk_at "go"
        rename_i p
        refine logQ _ 6 7 (by omega) (fun _ => by walk_at "hasl") (by decide) (show 6 < 8 by decide) (show 7 < 8 by decide) ?_
        walk_at "go"
        refine Ret.mk _ ?_ (h r p)
        walk_at "cov"
      · rename_i z
        rw [hin, decide_eq_true hm] at z
        cases z
    · walk_at "go"
      refine CtOf.mk [] _ .nil ⟨w, rfl, rfl, ?_⟩
      walk_at "go"
      refine call_reqkeys (F := []) 2500 (by walk_at "pull") (.inr ⟨rfl, rfl⟩) (by omega) ?_
      walk_at "go"
      · refine CtOf.mk [] _ .nil ⟨w, ms.length, by rw [hlen]; rfl, rfl, h1, ?_⟩
        walk_at "go"
        rename_i r s x1 x2 x3
  
        refine CtOf.mk [(x3, .ins cl.Honest []), (x2, .lst (ms.map D.int ++ [D.non]))] _ (by walk_at "pull") ⟨x3, .ref x2, (ms.map D.int ++ [D.non]), [(x2, .lst (ms.map D.int ++ [D.non]))], rfl, rfl, .inl ⟨x2, rfl, rfl⟩, ?_⟩
        intro mk la
        walk_at "go"
        rw [hlen, range_dn]
        refine done_core hok h2 h1 (by walk_at "pull") ?_
        walk_at "go"
        rename_i p
        refine logQ _ 6 7 (by omega) (fun _ => by walk_at "hasl") (by decide) (show 6 < 8 by decide) (show 7 < 8 by decide) ?_
        walk_at "go"
        refine Ret.mk _ ?_ (h r p)
        walk_at "cov"
      · rename_i z
        rw [hin, decide_eq_true hm] at z
        cases z
  · have ek : keyD w kk = .int kk := by unfold keyD; rw [if_pos hm]
    have ea : allM w ms kk = ms ++ [kk] := by unfold allM; rw [if_pos hm]
    have hok : DeedOk w (.hon (ms ++ [kk]) []) (List.range ms.length) := deedOk_range (by simp; omega) h1 h2
    have ex : ms.map D.int ++ [D.int kk] = (ms ++ [kk]).map D.int ++ [] := by simp
    rw [ea] at h hT
    rw [ek]
    rcases hd with ⟨q, rfl, rfl⟩ | ⟨rfl, rfl⟩
    · walk_at "go"
      refine CtOf.mk [] _ .nil ⟨w, rfl, rfl, ?_⟩
      walk_at "go"
      refine call_reqkeys (F := [(q, intsO ms)]) 2500 (by walk_at "pull") (.inl ⟨q, rfl, rfl⟩) (by omega) ?_
      walk_at "go"
      · rename_i z
        rw [hin] at z
        have := of_decide_eq_true z
        omega
      · refine CtOf.mk [] _ .nil ⟨kk, rfl, rfl, ?_⟩
        walk_at "go"
        refine CtOf.mk [] _ .nil ⟨w, ms.length, by rw [hlen]; rfl, rfl, h1, ?_⟩
        walk_at "go"
        rename_i r s x1 x2 x3
        rw [ex]
        refine CtOf.mk [(x3, .ins cl.Honest []), (x2, .lst ((ms ++ [kk]).map D.int ++ []))] _ (by walk_at "pull") ⟨x3, .ref x2, ((ms ++ [kk]).map D.int ++ []), [(x2, .lst ((ms ++ [kk]).map D.int ++ []))], rfl, rfl, .inl ⟨x2, rfl, rfl⟩, ?_⟩
        intro mk la
        walk_at "go"
        rw [hlen, range_dn]
        refine done_core hok h2 h1 (by walk_at "pull") ?_
        walk_at "go"
        rename_i p
        refine logQ _ 6 7 (by omega) (fun _ => by walk_at "hasl") (by decide) (show 6 < 8 by decide) (show 7 < 8 by decide) ?_
        walk_at "go"
        refine Ret.mk _ ?_ (h r p)
        walk_at "cov"
    · walk_at "go"
      refine CtOf.mk [] _ .nil ⟨w, rfl, rfl, ?_⟩
      walk_at "go"
      refine call_reqkeys (F := []) 2500 (by walk_at "pull") (.inr ⟨rfl, rfl⟩) (by omega) ?_
      walk_at "go"
      · rename_i z
        rw [hin] at z
        have := of_decide_eq_true z
        omega
      · refine CtOf.mk [] _ .nil ⟨kk, rfl, rfl, ?_⟩
        walk_at "go"
        refine CtOf.mk [] _ .nil ⟨w, ms.length, by rw [hlen]; rfl, rfl, h1, ?_⟩
        walk_at "go"
        rename_i r s x1 x2 x3
        rw [ex]
        refine CtOf.mk [(x3, .ins cl.Honest []), (x2, .lst ((ms ++ [kk]).map D.int ++ []))] _ (by walk_at "pull") ⟨x3, .ref x2, ((ms ++ [kk]).map D.int ++ []), [(x2, .lst ((ms ++ [kk]).map D.int ++ []))], rfl, rfl, .inl ⟨x2, rfl, rfl⟩, ?_⟩
        intro mk la
        walk_at "go"
        rw [hlen, range_dn]
        refine done_core hok h2 h1 (by walk_at "pull") ?_
        walk_at "go"
        rename_i p
        refine logQ _ 6 7 (by omega) (fun _ => by walk_at "hasl") (by decide) (show 6 < 8 by decide) (show 7 < 8 by decide) ?_
        walk_at "go"
        refine Ret.mk _ ?_ (h r p)
        walk_at "cov"
end DL

namespace DL
open PySem PySem.Spec PyProof.Rows L2
local macro_rules | `(tactic| walk_at "has") => `(tactic| first | exact Has.here | (apply Has.there; walk_at "has"))
local macro_rules | `(tactic| walk_at "hasl") => `(tactic| first | (refine Or.inl ?_; walk_at "has") | (refine Or.inr ?_; walk_at "has"))
local macro_rules | `(tactic| walk_at "sel") => `(tactic| first | exact Sel.here | (apply Sel.there; walk_at "sel"))
local macro_rules | `(tactic| walk_at "chg") => `(tactic| first | exact Chg.here | (apply Chg.there; walk_at "chg"))
local macro_rules | `(tactic| walk_at "pull") => `(tactic| first | exact Pull.nil | (apply Pull.cons; (walk_at "sel"); exact rfl; walk_at "pull"))
local macro_rules | `(tactic| walk_at "cov") => `(tactic| first | exact Cov.refl | (apply Cov.take; (walk_at "sel"); (first | exact rfl | assumption); walk_at "cov") | (apply Cov.take; (walk_at "sel"); rotate_left; walk_at "cov") | (refine Cov.drop ?_; walk_at "cov"))
local macro_rules | `(tactic| walk_at "sub") => `(tactic| first | exact Sub.nil | (refine Sub.same (by first | rfl | assumption) ?_; walk_at "sub") | (refine Sub.any ?_; walk_at "sub") | (refine Sub.same ?_ ?_; rotate_left; walk_at "sub"))
local macro_rules | `(tactic| walk_at "side") => `(tactic| first | assumption | (with_reducible rfl) | omega | (refine mulOk_r ?_ ?_ <;> first | omega | decide) | (refine mulOk_l ?_ ?_ <;> first | omega | decide) | (refine divOk_of ?_ ?_ <;> first | omega | decide) | (refine ⟨?_, ?_⟩ <;> walk_at "side") | rfl | (simp <;> omega) | decide)
local macro_rules | `(tactic| walk_at "kn") => `(tactic| first | assumption | decide | rfl)
local macro_rules | `(tactic| walk_at "br") => `(tactic| first | (with_reducible first | refine Br.t ?_ | refine Br.f ?_) | ((with_reducible refine Br.dec_t ?_ ?_); focus walk_at "kn") | ((with_reducible refine Br.dec_f ?_ ?_); focus walk_at "kn") | ((with_reducible refine Br.ndec_t ?_ ?_); focus walk_at "kn") | ((with_reducible refine Br.ndec_f ?_ ?_); focus walk_at "kn") | (with_reducible first | (refine Br.dec ?_ ?_ <;> intro _) | (refine Br.ndec ?_ ?_ <;> intro _)) | refine Br.t ?_ | refine Br.f ?_ | (with_reducible refine Br.mk ?_ ?_ <;> intro _))
local macro_rules | `(tactic| walk_at "st") => `(tactic| ((try (conv => whnf)); first
  | walk_at "br"
  | with_reducible (intro _)
  | (refine ⟨_, (by walk_at "has" : Has _ _ _), ?_⟩)
  | (refine ⟨_, (by walk_at "hasl" : HasL _ _ _), ?_⟩)
  | (refine ⟨_, _, (by walk_at "chg" : Chg _ _ _ _ _), ?_⟩)
  | (refine ⟨_, _, _, (by walk_at "chg" : Chg _ _ _ _ _), (by first | rfl | assumption : ixN _ _ = some _), ?_⟩)
  | (refine ⟨_, _, (by walk_at "sel" : Sel _ _ _ _), ?_⟩)
  | (refine ⟨_, _, _, (by walk_at "has" : Has _ _ _), (by assumption), ?_⟩)
  | (refine ⟨_, (by first | rfl | assumption : atI _ _ = some _), ?_⟩)
  | (refine And.intro (by walk_at "side") ?_)))
local macro_rules | `(tactic| walk_at "st2") => `(tactic| first | walk_at "st" | ((try (conv => whnf)); with_reducible refine And.intro ?_ ?_; rotate_left))
local macro_rules | `(tactic| walk_at "go") => `(tactic| first | ((try (conv => whnf)); walk_at "br" <;> walk_at "go") | (walk_at "st"; walk_at "go") | (conv => whnf) | skip)
/-- behind the try: all is told, or too many answers were given -/
theorem rd_deed_told_s6 (cl : Cl) (R : LL) (Φ : DK) (Ψ : XC) (g : Addr) (P : Hp → Prop) (w : Deed) (many : Nat) (d gv qu : D) (as : List Bool) (F : LL) (r a mk la : Addr) (row : List Nat) (lg : Log) (hd : seqB d as F) (h3 : lg.length ≤ 1000000)
    (h : (qu = .non ∧ if lg.length < as.length then ∀ p, Ψ .answers p ((p, .xd [(20, .int lg.length)]) :: (F ++ R)) else ∀ s, Φ (.tup [.ref r, gv, .non, .ref s]) ((r, rowO row) :: (s, .lst ((lg.map pr).map qD)) :: (F ++ R))) ∨
      ∃ i j : Nat, qu = qD (i, j) ∧ ∀ s, Φ (.tup [.ref r, gv, qD (i, j), .ref s]) ((r, rowO row) :: (s, .lst ((lg.map pr).map qD)) :: (F ++ R))) :
    t_deed_told_s6 cl (defW Ψ g P) (endD Φ) [some (.str w.str), some (.int many), some d, none, some (.ref r), some (.ref a), some gv, some qu, none, none] ((r, rowO row) :: (askF cl (.told as) a mk la lg ++ (F ++ (g, .gh P) :: R))) := by
  rcases hd with ⟨q, rfl, rfl⟩ | ⟨rfl, rfl⟩
  · rcases h with ⟨rfl, h⟩ | ⟨i, j, rfl, h⟩
    · walk_at "go"
      · rename_i hz p
        have hz : lg.length < as.length := by simp only [List.length_map] at hz; omega
        rw [if_pos hz] at h
        refine RaiseTo.mk _ ?_ (h p)
        rw [List.length_map]
        walk_at "cov"
      · rename_i hz s
        have hz : ¬ lg.length < as.length := by simp only [List.length_map] at hz; omega
        rw [if_neg hz] at h
        refine logQ _ 8 9 h3 (fun _ => by walk_at "hasl") (by decide) (show 8 < 10 by decide) (show 9 < 10 by decide) ?_
        walk_at "go"
        refine Ret.mk _ ?_ (h s)
        walk_at "cov"
    · walk_at "go"
      rename_i s
      refine logQ _ 8 9 h3 (fun _ => by walk_at "hasl") (by decide) (show 8 < 10 by decide) (show 9 < 10 by decide) ?_
      walk_at "go"
      refine Ret.mk _ ?_ (h s)
      walk_at "cov"
  · rcases h with ⟨rfl, h⟩ | ⟨i, j, rfl, h⟩
    · walk_at "go"
      · rename_i hz p
        have hz : lg.length < as.length := by simp only [List.length_map] at hz; omega
        rw [if_pos hz] at h
        refine RaiseTo.mk _ ?_ (h p)
        rw [List.length_map]
        walk_at "cov"
      · rename_i hz s
        have hz : ¬ lg.length < as.length := by simp only [List.length_map] at hz; omega
        rw [if_neg hz] at h
        refine logQ _ 8 9 h3 (fun _ => by walk_at "hasl") (by decide) (show 8 < 10 by decide) (show 9 < 10 by decide) ?_
        walk_at "go"
        refine Ret.mk _ ?_ (h s)
        walk_at "cov"
    · walk_at "go"
      rename_i s
      refine logQ _ 8 9 h3 (fun _ => by walk_at "hasl") (by decide) (show 8 < 10 by decide) (show 9 < 10 by decide) ?_
      walk_at "go"
      refine Ret.mk _ ?_ (h s)
      walk_at "cov"
end DL

namespace DL
open PySem PySem.Spec PyProof.Rows L2
local macro_rules | `(tactic| walk_at "has") => `(tactic| first | exact Has.here | (apply Has.there; walk_at "has"))
local macro_rules | `(tactic| walk_at "hasl") => `(tactic| first | (refine Or.inl ?_; walk_at "has") | (refine Or.inr ?_; walk_at "has"))
local macro_rules | `(tactic| walk_at "sel") => `(tactic| first | exact Sel.here | (apply Sel.there; walk_at "sel"))
local macro_rules | `(tactic| walk_at "chg") => `(tactic| first | exact Chg.here | (apply Chg.there; walk_at "chg"))
local macro_rules | `(tactic| walk_at "pull") => `(tactic| first | exact Pull.nil | (apply Pull.cons; (walk_at "sel"); exact rfl; walk_at "pull"))
local macro_rules | `(tactic| walk_at "cov") => `(tactic| first | exact Cov.refl | (apply Cov.take; (walk_at "sel"); (first | exact rfl | assumption); walk_at "cov") | (apply Cov.take; (walk_at "sel"); rotate_left; walk_at "cov") | (refine Cov.drop ?_; walk_at "cov"))
local macro_rules | `(tactic| walk_at "sub") => `(tactic| first | exact Sub.nil | (refine Sub.same (by first | rfl | assumption) ?_; walk_at "sub") | (refine Sub.any ?_; walk_at "sub") | (refine Sub.same ?_ ?_; rotate_left; walk_at "sub"))
local macro_rules | `(tactic| walk_at "side") => `(tactic| first | assumption | (with_reducible rfl) | omega | (refine mulOk_r ?_ ?_ <;> first | omega | decide) | (refine mulOk_l ?_ ?_ <;> first | omega | decide) | (refine divOk_of ?_ ?_ <;> first | omega | decide) | (refine ⟨?_, ?_⟩ <;> walk_at "side") | rfl | (simp <;> omega) | decide)
local macro_rules | `(tactic| walk_at "kn") => `(tactic| first | assumption | decide | rfl)
local macro_rules | `(tactic| walk_at "br") => `(tactic| first | (with_reducible first | refine Br.t ?_ | refine Br.f ?_) | ((with_reducible refine Br.dec_t ?_ ?_); focus walk_at "kn") | ((with_reducible refine Br.dec_f ?_ ?_); focus walk_at "kn") | ((with_reducible refine Br.ndec_t ?_ ?_); focus walk_at "kn") | ((with_reducible refine Br.ndec_f ?_ ?_); focus walk_at "kn") | (with_reducible first | (refine Br.dec ?_ ?_ <;> intro _) | (refine Br.ndec ?_ ?_ <;> intro _)) | refine Br.t ?_ | refine Br.f ?_ | (with_reducible refine Br.mk ?_ ?_ <;> intro _))
local macro_rules | `(tactic| walk_at "st") => `(tactic| ((try (conv => whnf)); first
  | walk_at "br"
  | with_reducible (intro _)
  | (refine ⟨_, (by walk_at "has" : Has _ _ _), ?_⟩)
  | (refine ⟨_, (by walk_at "hasl" : HasL _ _ _), ?_⟩)
  | (refine ⟨_, _, (by walk_at "chg" : Chg _ _ _ _ _), ?_⟩)
  | (refine ⟨_, _, _, (by walk_at "chg" : Chg _ _ _ _ _), (by first | rfl | assumption : ixN _ _ = some _), ?_⟩)
  | (refine ⟨_, _, (by walk_at "sel" : Sel _ _ _ _), ?_⟩)
  | (refine ⟨_, _, _, (by walk_at "has" : Has _ _ _), (by assumption), ?_⟩)
  | (refine ⟨_, (by first | rfl | assumption : atI _ _ = some _), ?_⟩)
  | (refine And.intro (by walk_at "side") ?_)))
local macro_rules | `(tactic| walk_at "st2") => `(tactic| first | walk_at "st" | ((try (conv => whnf)); with_reducible refine And.intro ?_ ?_; rotate_left))
local macro_rules | `(tactic| walk_at "go") => `(tactic| first | ((try (conv => whnf)); walk_at "br" <;> walk_at "go") | (walk_at "st"; walk_at "go") | (conv => whnf) | skip)
theorem rd_deed_told (cl : Cl) (ds : List D) (F R : LL) (Φ : DK) (Ψ : XC) (g : Addr) (P : Hp → Prop) (h : S_deed_told cl ds F R Φ Ψ) : t_deed_told cl (defW Ψ g P) (endD Φ) (startD 10 ds) (F ++ (g, .gh P) :: R) := by
  obtain ⟨w, many, d, as, rfl, hd, ⟨h1, h2, h3, hl⟩, h⟩ := h
  have hT2 := deedT_depth (w := w) (row := List.range many) (by simpa using h1) (by simp; omega)
  rw [List.length_range] at hT2
  have hok : DeedOk w (.told as) (List.range many) := ⟨by simpa using h1, fun _ _ => trivial, by simp; omega, fun _ _ => trivial⟩
  rcases hd with ⟨q, rfl, rfl⟩ | ⟨rfl, rfl⟩
  · walk_at "go"
    refine CtOf.mk [] _ .nil ⟨w, rfl, rfl, ?_⟩
    walk_at "go"
    refine CtOf.mk [] _ .nil ⟨_, many, 0, 2500, rfl, rfl, ⟨by omega, by omega⟩, ?_⟩
    walk_at "go"
    refine CtOf.mk [(q, .lst (as.map .bl))] _ (by walk_at "pull") ⟨.ref q, as, rfl, .inl ⟨q, rfl, rfl⟩, h3, ?_⟩
    walk_at "go"
    refine CtOf.mk [] _ .nil ⟨w, many, rfl, rfl, h1, ?_⟩
    walk_at "go"
    rename_i r a
    refine CtOf.mk [(a, .ins cl.Told []), (q, .lst (as.map .bl))] _ (by walk_at "pull") ⟨a, .ref q, as, [(q, .lst (as.map .bl))], rfl, rfl, .inl ⟨q, rfl, rfl⟩, ?_⟩
    intro mk la
    walk_at "go"
    rename_i g1 P1
    rw [range_dn]
    refine ⟨_, _, (by walk_at "pull" : Pull _ ((r, rowO (List.range many)) :: askF cl (.told as) a mk la []) _), w, r, a, mk, la, .told as, List.range many, [], rfl, rfl, ⟨hok, ⟨hl, Nat.zero_le _⟩, by simp; omega⟩, ?_⟩
    cases hx : (deedT w (List.range many)).ex (.told as) [] with
    | ok x l =>
      have hlen := Tr.ex_len hx
      have hfit := Tr.ex_fits hx (Nat.zero_le _)
      rw [hx] at h
      walk_at "go"
      refine Wk.mk _ _ (by walk_at "sub") (by walk_at "cov") (rd_deed_told_s6 cl R Φ Ψ g P w many (.ref q) (optD x.2) .non as [(q, .lst (as.map .bl))] r a mk la x.1 l (.inl ⟨q, rfl, rfl⟩) (by simp at hlen; omega) (.inl ⟨rfl, ?_⟩))
      show if l.length < as.length then _ else _
      have h' : (if l.length < as.length then ∀ p, Ψ .answers p ((p, .xd [(20, .int l.length)]) :: ([(q, .lst (as.map .bl))] ++ R)) else ∀ r s, Φ (.tup [.ref r, optD x.2, .non, .ref s]) ((r, rowO x.1) :: (s, .lst ((l.map pr).map qD)) :: ([(q, .lst (as.map .bl))] ++ R))) := h
      split
      · rename_i z
        rw [if_pos z] at h'
        exact h'
      · rename_i z
        rw [if_neg z] at h'
        exact h' r
    | no s i j l =>
      have hlen := Tr.ex_log (.told as) (deedT w (List.range many)) []
      rw [hx] at h hlen
      intro p
      refine ⟨hl.2, fun _ => RaiseTo.mk _ (by walk_at "cov") fun a1 => ?_, fun z => by cases z⟩
      walk_at "go"
      refine Wk.mk _ _ (by walk_at "sub") (by walk_at "cov") (rd_deed_told_s6 cl R Φ Ψ g P w many (.ref q) .non (qD (i, j)) as [(q, .lst (as.map .bl))] r a mk la s l (.inl ⟨q, rfl, rfl⟩) (by simp at hlen; omega) (.inr ⟨i, j, rfl, h r⟩))
  · walk_at "go"
    refine CtOf.mk [] _ .nil ⟨w, rfl, rfl, ?_⟩
    walk_at "go"
    refine CtOf.mk [] _ .nil ⟨_, many, 0, 2500, rfl, rfl, ⟨by omega, by omega⟩, ?_⟩
    walk_at "go"
    refine CtOf.mk [] _ .nil ⟨.tup (as.map .bl), as, rfl, .inr ⟨rfl, rfl⟩, h3, ?_⟩
    walk_at "go"
    refine CtOf.mk [] _ .nil ⟨w, many, rfl, rfl, h1, ?_⟩
    walk_at "go"
    rename_i r a
    refine CtOf.mk [(a, .ins cl.Told [])] _ (by walk_at "pull") ⟨a, .tup (as.map .bl), as, [], rfl, rfl, .inr ⟨rfl, rfl⟩, ?_⟩
    intro mk la
    walk_at "go"
    rename_i g1 P1
    rw [range_dn]
    refine ⟨_, _, (by walk_at "pull" : Pull _ ((r, rowO (List.range many)) :: askF cl (.told as) a mk la []) _), w, r, a, mk, la, .told as, List.range many, [], rfl, rfl, ⟨hok, ⟨hl, Nat.zero_le _⟩, by simp; omega⟩, ?_⟩
    cases hx : (deedT w (List.range many)).ex (.told as) [] with
    | ok x l =>
      have hlen := Tr.ex_len hx
      have hfit := Tr.ex_fits hx (Nat.zero_le _)
      rw [hx] at h
      walk_at "go"
      refine Wk.mk _ _ (by walk_at "sub") (by walk_at "cov") (rd_deed_told_s6 cl R Φ Ψ g P w many (.tup (as.map .bl)) (optD x.2) .non as [] r a mk la x.1 l (.inr ⟨rfl, rfl⟩) (by simp at hlen; omega) (.inl ⟨rfl, ?_⟩))
      show if l.length < as.length then _ else _
      have h' : (if l.length < as.length then ∀ p, Ψ .answers p ((p, .xd [(20, .int l.length)]) :: ([] ++ R)) else ∀ r s, Φ (.tup [.ref r, optD x.2, .non, .ref s]) ((r, rowO x.1) :: (s, .lst ((l.map pr).map qD)) :: ([] ++ R))) := h
      split
      · rename_i z
        rw [if_pos z] at h'
        exact h'
      · rename_i z
        rw [if_neg z] at h'
        exact h' r
    | no s i j l =>
      have hlen := Tr.ex_log (.told as) (deedT w (List.range many)) []
      rw [hx] at h hlen
      intro p
      refine ⟨hl.2, fun _ => RaiseTo.mk _ (by walk_at "cov") fun a1 => ?_, fun z => by cases z⟩
      walk_at "go"
      refine Wk.mk _ _ (by walk_at "sub") (by walk_at "cov") (rd_deed_told_s6 cl R Φ Ψ g P w many (.tup (as.map .bl)) .non (qD (i, j)) as [] r a mk la s l (.inr ⟨rfl, rfl⟩) (by simp at hlen; omega) (.inr ⟨i, j, rfl, h r⟩))
end DL

/-! rows in trees are permutations -/
namespace DL
theorem swapN_perm {row : List Nat} {i j : Nat} (hi : i < row.length) (hj : j < row.length) : (swapN row i j).Perm row := by
  unfold swapN
  refine List.perm_iff_count.mpr fun a => ?_
  have e1 : row.getD i 0 = row[i] := by simp [List.getD, List.getElem?_eq_getElem hi]
  have e2 : row.getD j 0 = row[j] := by simp [List.getD, List.getElem?_eq_getElem hj]
  rw [e1, e2, List.count_set (by simpa using hj), List.count_set hi]
  have p1 : (if row[i] == a then 1 else 0) ≤ row.count a := by
    split
    · rename_i h
      have : row[i] = a := by simpa using h
      rw [← this]
      exact List.count_pos_iff.mpr (List.getElem_mem hi)
    · exact Nat.zero_le _
  by_cases hij : i = j
  · subst hij
    simp only [List.getElem_set_self]
    omega
  · rw [List.getElem_set_ne hij]
    omega
/-- all rows, where it waits and where it ends -/
def TrAll {α : Type} (P : List Nat → Prop) (len : α → List Nat) : Tr α → Prop
  | .ret a => P (len a)
  | .ask s _ _ c => P s ∧ ∀ b, TrAll P len (c b)
theorem TrAll.bind {α β : Type} {P : List Nat → Prop} {len : α → List Nat} {len' : β → List Nat} {f : α → Tr β} : ∀ {t : Tr α}, TrAll P len t → (∀ a, P (len a) → TrAll P len' (f a)) → TrAll P len' (t.bind f)
  | .ret a, h, hf => hf a h
  | .ask s i j c, h, hf => ⟨h.1, fun b => TrAll.bind (h.2 b) hf⟩
theorem TrAll.ex {α : Type} {P : List Nat → Prop} {len : α → List Nat} {k : AK} : ∀ {t : Tr α} {l : Log}, TrAll P len t → match t.ex k l with
    | .ok a _ => P (len a)
    | .no s _ _ _ => P s
  | .ret a, l, h => h
  | .ask s i j c, l, h => by
    rw [Tr.ex_ask]
    cases k.ans l.length i j with
    | none => exact h.1
    | some b => exact TrAll.ex (h.2 b)
theorem riseT_perm {base : List Nat} : ∀ (f : Nat) (row : List Nat) (p low : Nat), p < row.length → row.Perm base → TrAll (·.Perm base) id (riseT f row p low)
  | 0, row, p, low, hp, h => h
  | f + 1, row, p, low, hp, h => by
    unfold riseT
    split
    · refine ⟨h, fun b => ?_⟩
      cases b
      · exact h
      · have hq : (p - 1) / 2 < row.length := by omega
        exact riseT_perm f _ _ _ (by rw [swapN_length]; exact hq) ((swapN_perm hp hq).trans h)
    · exact h
theorem sinkT_perm {base : List Nat} : ∀ (f : Nat) (row : List Nat) (p low : Nat), p < row.length → row.Perm base → TrAll (·.Perm base) id (sinkT f row p low)
  | 0, row, p, low, hp, h => riseT_perm _ _ _ _ hp h
  | f + 1, row, p, low, hp, h => by
    unfold sinkT
    split
    · rename_i h1
      split
      · rename_i h2
        refine ⟨h, fun b => ?_⟩
        cases b
        · exact sinkT_perm f _ _ _ (by rw [swapN_length]; exact h2) ((swapN_perm hp h2).trans h)
        · exact sinkT_perm f _ _ _ (by rw [swapN_length]; exact h1) ((swapN_perm hp h1).trans h)
      · exact sinkT_perm f _ _ _ (by rw [swapN_length]; exact h1) ((swapN_perm hp h1).trans h)
    · exact riseT_perm _ _ _ _ hp h
theorem makeT_perm {base : List Nat} : ∀ (n : Nat) (row : List Nat), n ≤ row.length → row.Perm base → TrAll (·.Perm base) id (makeT n row)
  | 0, row, _, h => h
  | n + 1, row, hn, h => by
    unfold makeT
    exact (sinkT_perm row.length row n n (by omega) h).bind fun r hr => makeT_perm n r (by have := hr.length_eq; have h2 := h.length_eq; simp only [id] at this; omega) hr
end DL

/-! where the items are behind a deed by any answers -/
namespace DL
theorem putT_perm {row base : List Nat} {item : Nat} (h0 : 0 < row.length) (h : (item :: row.tail).Perm base) : TrAll (·.Perm base) id (putT row item) := by
  match row, h0 with
  | x :: r, _ => exact sinkT_perm _ _ _ _ (by simp) h
/-- what a deed leaves -/
def LeftOk (w : Deed) (many : Nat) (l0 : Log) : Rs (List Nat × Option Nat) → Prop
  | .ok (row, some n) _ => (row ++ [n]).Perm (List.range (many + w.more))
  | .ok (row, none) _ => row.Perm (List.range (many + w.more))
  | .no s _ _ l => match w with
    | .heapify => s.Perm (List.range many)
    | .push => s.Perm (List.range (many + 1))
    | .pop => (s ++ [0]).Perm (List.range many)
    | .replace => (s ++ [0]).Perm (List.range (many + 1))
    | .pushpop => if l = l0 then s = List.range many else (s ++ [0]).Perm (List.range (many + 1))
theorem TrAll.imp {α : Type} {P Q : List Nat → Prop} {len len' : α → List Nat} (h1 : ∀ r, P r → Q r) (h2 : ∀ a, P (len a) → Q (len' a)) : ∀ {t : Tr α}, TrAll P len t → TrAll Q len' t
  | .ret a, h => h2 a h
  | .ask _ _ _ c, h => ⟨h1 _ h.1, fun b => TrAll.imp h1 h2 (h.2 b)⟩
theorem range_tail (n : Nat) : 0 :: (List.range (n + 1)).tail = List.range (n + 1) := by
  rw [List.range_succ_eq_map]; rfl
theorem takes_perm {many : Nat} {r : List Nat} {xs : List Nat} (e : 0 :: xs = List.range many) (h : r.Perm xs) : (r ++ [0]).Perm (List.range many) := by
  rw [← e]
  exact (List.perm_append_singleton 0 r).trans (List.Perm.cons 0 h)
/-- rows where it waits, what ends -/
def TrA {α : Type} (P : List Nat → Prop) (Q : α → Prop) : Tr α → Prop
  | .ret a => Q a
  | .ask s _ _ c => P s ∧ ∀ b, TrA P Q (c b)
theorem TrAll.a {α : Type} {P P' : List Nat → Prop} {len : α → List Nat} {Q : α → Prop} (h1 : ∀ r, P r → P' r) (h2 : ∀ a, P (len a) → Q a) : ∀ {t : Tr α}, TrAll P len t → TrA P' Q t
  | .ret a, h => h2 a h
  | .ask _ _ _ c, h => ⟨h1 _ h.1, fun b => TrAll.a h1 h2 (h.2 b)⟩
theorem TrA.bind {α β : Type} {P : List Nat → Prop} {Q : α → Prop} {Q' : β → Prop} {f : α → Tr β} : ∀ {t : Tr α}, TrA P Q t → (∀ a, Q a → TrA P Q' (f a)) → TrA P Q' (t.bind f)
  | .ret a, h, hf => hf a h
  | .ask s i j c, h, hf => ⟨h.1, fun b => TrA.bind (h.2 b) hf⟩
def RsA {α : Type} (P : List Nat → Prop) (Q : α → Prop) : Rs α → Prop
  | .ok a _ => Q a
  | .no s _ _ _ => P s
theorem TrA.ex {α : Type} {P : List Nat → Prop} {Q : α → Prop} {k : AK} : ∀ {t : Tr α} {l : Log}, TrA P Q t → RsA P Q (t.ex k l)
  | .ret a, l, h => h
  | .ask s i j c, l, h => by
    rw [Tr.ex_ask]
    cases k.ans l.length i j with
    | none => exact h.1
    | some b => exact TrA.ex (h.2 b)
/-- the log grows -/
theorem ex_longer {α : Type} {k : AK} : ∀ {t : Tr α} {l : Log}, match t.ex k l with
    | .ok _ l' => l.length ≤ l'.length
    | .no _ _ _ l' => l.length ≤ l'.length
  | .ret a, l => Nat.le_refl _
  | .ask s i j c, l => by
    rw [Tr.ex_ask]
    cases k.ans l.length i j with
    | none => exact Nat.le_refl _
    | some b =>
      have h := ex_longer (k := k) (t := c b) (l := l ++ [(i, j, b)])
      show (match (c b).ex k (l ++ [(i, j, b)]) with
        | .ok _ l' => l.length ≤ l'.length
        | .no _ _ _ l' => l.length ≤ l'.length)
      generalize (c b).ex k (l ++ [(i, j, b)]) = res at h ⊢
      cases res with
      | ok a l' => simp at h ⊢; omega
      | no s i j l' => simp at h ⊢; omega
theorem take_a {many : Nat} (h : 0 < many) : TrA (fun s => (s ++ [0]).Perm (List.range many)) (fun a : List Nat × Nat => (a.1 ++ [a.2]).Perm (List.range many)) (takeT (List.range many)) := by
  obtain ⟨n, rfl⟩ := Nat.exists_eq_add_of_lt h
  simp only [Nat.zero_add]
  unfold takeT
  split
  · rename_i h1
    have : n = 0 := by simpa using h1
    subst this
    exact List.Perm.refl _
  · rename_i h1
    have hn : 0 < n := by simp at h1; omega
    have e0 : (List.range (n + 1)).getD 0 0 = 0 := by simp [List.getD]
    have el : (List.range (n + 1)).getD ((List.range (n + 1)).length - 1) 0 = n := by simp [List.getD]
    have ed : (List.range (n + 1)).dropLast = List.range n := by rw [List.range_succ, List.dropLast_concat]
    rw [e0, el, ed]
    have hp : (n :: (List.range n).tail).Perm (List.range (n + 1)).tail := by
      obtain ⟨m, rfl⟩ := Nat.exists_eq_add_of_lt hn
      simp only [Nat.zero_add]
      have e : (List.range (m + 1 + 1)).tail = (List.range (m + 1)).tail ++ [m + 1] := by
        rw [List.range_succ (n := m + 1)]
        rw [List.tail_append_of_ne_nil (by simp)]
      rw [e]
      exact (List.perm_append_singleton _ _).symm
    have ht := (putT_perm (row := List.range n) (by simpa using hn) hp).a (P' := fun s => (s ++ [0]).Perm (List.range (n + 1))) (Q := fun r => (r ++ [0]).Perm (List.range (n + 1))) (fun r hr => takes_perm (range_tail n) hr) (fun r hr => takes_perm (range_tail n) hr)
    exact ht.bind fun a ha => ha
theorem put_a {many : Nat} (h : 0 < many) : TrA (fun s => (s ++ [0]).Perm (List.range (many + 1))) (fun r : List Nat => (r ++ [0]).Perm (List.range (many + 1))) (putT (List.range many) many) := by
  obtain ⟨m, rfl⟩ := Nat.exists_eq_add_of_lt h
  simp only [Nat.zero_add]
  have hp : ((m + 1) :: (List.range (m + 1)).tail).Perm (List.range (m + 1 + 1)).tail := by
    have e : (List.range (m + 1 + 1)).tail = (List.range (m + 1)).tail ++ [m + 1] := by
      rw [List.range_succ (n := m + 1)]
      rw [List.tail_append_of_ne_nil (by simp)]
    rw [e]
    exact (List.perm_append_singleton _ _).symm
  exact (putT_perm (row := List.range (m + 1)) (by simp) hp).a (fun r hr => takes_perm (range_tail (m + 1)) hr) (fun r hr => takes_perm (range_tail (m + 1)) hr)
/-- where the items are -/
theorem leftOk (w : Deed) (many : Nat) (k : AK) (h : w = .pop ∨ w = .replace → 0 < many) : LeftOk w many [] ((deedT w (List.range many)).ex k []) := by
  have one : ∀ {t : Tr (List Nat × Option Nat)} {P : List Nat → Prop} {Q : List Nat × Option Nat → Prop}, TrA P Q t → RsA P Q (t.ex k []) := fun h => h.ex
  cases w with
  | heapify =>
    have t : TrA (·.Perm (List.range many)) (fun a : List Nat × Option Nat => a.1.Perm (List.range many) ∧ a.2 = none) (deedT .heapify (List.range many)) := by
      show TrA _ _ ((makeT ((List.range many).length / 2) (List.range many)).bind fun r => .ret (r, none))
      exact TrA.bind (Q := fun r => r.Perm (List.range many)) (TrAll.a (P := (·.Perm (List.range many))) (len := id) (fun _ h => h) (fun _ h => h) (makeT_perm ((List.range many).length / 2) (List.range many) (Nat.div_le_self _ _) (List.Perm.refl _))) fun r hr => (show r.Perm _ ∧ none = none from ⟨hr, rfl⟩)
    have h1 := one t
    generalize (deedT .heapify (List.range many)).ex k [] = res at h1 ⊢
    cases res with
    | ok a l => obtain ⟨r, o⟩ := a; obtain ⟨h1, rfl⟩ := h1; exact h1
    | no s i j l => exact h1
  | push =>
    have t : TrA (·.Perm (List.range (many + 1))) (fun a : List Nat × Option Nat => a.1.Perm (List.range (many + 1)) ∧ a.2 = none) (deedT .push (List.range many)) := by
      show TrA _ _ ((riseT ((List.range many).length + 1) (List.range many ++ [(List.range many).length]) (List.range many).length 0).bind fun r => .ret (r, none))
      exact TrA.bind (Q := fun r => r.Perm (List.range (many + 1))) (TrAll.a (P := (·.Perm (List.range (many + 1)))) (len := id) (fun _ h => h) (fun _ h => h) (riseT_perm ((List.range many).length + 1) (List.range many ++ [(List.range many).length]) (List.range many).length 0 (by simp) (by rw [List.length_range, ← List.range_succ]))) fun r hr => (show r.Perm _ ∧ none = none from ⟨hr, rfl⟩)
    have h1 := one t
    generalize (deedT .push (List.range many)).ex k [] = res at h1 ⊢
    cases res with
    | ok a l => obtain ⟨r, o⟩ := a; obtain ⟨h1, rfl⟩ := h1; exact h1
    | no s i j l => exact h1
  | pop =>
    have t : TrA (fun s => (s ++ [0]).Perm (List.range many)) (fun a : List Nat × Option Nat => ∃ n, a.2 = some n ∧ (a.1 ++ [n]).Perm (List.range many)) (deedT .pop (List.range many)) := (take_a (h (.inl rfl))).bind fun a ha => (show ∃ n, _ ∧ _ from ⟨_, rfl, ha⟩)
    have h1 := one t
    generalize (deedT .pop (List.range many)).ex k [] = res at h1 ⊢
    cases res with
    | ok a l => obtain ⟨r, o⟩ := a; obtain ⟨n, rfl, h1⟩ := h1; exact h1
    | no s i j l => exact h1
  | replace =>
    have h0 := h (.inr rfl)
    have e0 : (List.range many).getD 0 0 = 0 := by simp [List.getD, List.getElem?_range h0]
    have t : TrA (fun s => (s ++ [0]).Perm (List.range (many + 1))) (fun a : List Nat × Option Nat => ∃ n, a.2 = some n ∧ (a.1 ++ [n]).Perm (List.range (many + 1))) (deedT .replace (List.range many)) := by
      show TrA _ _ ((putT (List.range many) (List.range many).length).bind fun r => .ret (r, some ((List.range many).getD 0 0)))
      rw [List.length_range, e0]
      exact (put_a h0).bind fun a ha => (show ∃ n, _ ∧ _ from ⟨_, rfl, ha⟩)
    have h1 := one t
    generalize (deedT .replace (List.range many)).ex k [] = res at h1 ⊢
    cases res with
    | ok a l => obtain ⟨r, o⟩ := a; obtain ⟨n, rfl, h1⟩ := h1; exact h1
    | no s i j l => exact h1
  | pushpop =>
    by_cases hm : many = 0
    · subst hm
      exact List.Perm.refl _
    · have h0 : 0 < many := by omega
      have e0 : (List.range many).getD 0 0 = 0 := by simp [List.getD, List.getElem?_range h0]
      have ed : deedT .pushpop (List.range many) = .ask (List.range many) 0 many fun b => if b then (putT (List.range many) many).bind fun r => .ret (r, some 0) else .ret (List.range many, some many) := by
        show (if List.range many = [] then _ else _) = _
        rw [if_neg (by simpa using hm), List.length_range, e0]
      rw [ed, Tr.ex_ask]
      cases k.ans ([] : Log).length 0 many with
      | none => 
        show LeftOk _ _ _ (.no _ _ _ _)
        unfold LeftOk
        exact (if_pos rfl).mpr rfl
      | some b =>
        cases b
        · show (List.range many ++ [many]).Perm (List.range (many + 1))
          rw [← List.range_succ]
        · have t : TrA (fun s => (s ++ [0]).Perm (List.range (many + 1))) (fun a : List Nat × Option Nat => ∃ n, a.2 = some n ∧ (a.1 ++ [n]).Perm (List.range (many + 1))) ((putT (List.range many) many).bind fun r => .ret (r, some 0)) := (put_a h0).bind fun a ha => (show ∃ n, _ ∧ _ from ⟨_, rfl, ha⟩)
          have h1 := t.ex (k := k) (l := [] ++ [(0, many, true)])
          have h2 := ex_longer (k := k) (t := (putT (List.range many) many).bind fun r => Tr.ret (r, some 0)) (l := [] ++ [(0, many, true)])
          show LeftOk _ _ _ (((putT (List.range many) many).bind fun r => Tr.ret (r, some 0)).ex k ([] ++ [(0, many, true)]))
          generalize ((putT (List.range many) many).bind fun r => Tr.ret (r, some 0)).ex k ([] ++ [(0, many, true)]) = res at h1 h2 ⊢
          cases res with
          | ok a l => obtain ⟨r, o⟩ := a; obtain ⟨n, rfl, h1⟩ := h1; exact h1
          | no s i j l =>
            show if l = [] then _ else _
            rw [if_neg (fun e => by subst e; simp at h2)]
            exact h1
end DL

namespace DL
open PySem PySem.Spec PyProof.Rows L2
local macro_rules | `(tactic| walk_at "has") => `(tactic| first | exact Has.here | (apply Has.there; walk_at "has"))
local macro_rules | `(tactic| walk_at "hasl") => `(tactic| first | (refine Or.inl ?_; walk_at "has") | (refine Or.inr ?_; walk_at "has"))
local macro_rules | `(tactic| walk_at "sel") => `(tactic| first | exact Sel.here | (apply Sel.there; walk_at "sel"))
local macro_rules | `(tactic| walk_at "chg") => `(tactic| first | exact Chg.here | (apply Chg.there; walk_at "chg"))
local macro_rules | `(tactic| walk_at "pull") => `(tactic| first | exact Pull.nil | (apply Pull.cons; (walk_at "sel"); exact rfl; walk_at "pull"))
local macro_rules | `(tactic| walk_at "cov") => `(tactic| first | exact Cov.refl | (apply Cov.take; (walk_at "sel"); (first | exact rfl | assumption); walk_at "cov") | (apply Cov.take; (walk_at "sel"); rotate_left; walk_at "cov") | (refine Cov.drop ?_; walk_at "cov"))
local macro_rules | `(tactic| walk_at "sub") => `(tactic| first | exact Sub.nil | (refine Sub.same (by first | rfl | assumption) ?_; walk_at "sub") | (refine Sub.any ?_; walk_at "sub") | (refine Sub.same ?_ ?_; rotate_left; walk_at "sub"))
local macro_rules | `(tactic| walk_at "side") => `(tactic| first | assumption | (with_reducible rfl) | omega | (refine mulOk_r ?_ ?_ <;> first | omega | decide) | (refine mulOk_l ?_ ?_ <;> first | omega | decide) | (refine divOk_of ?_ ?_ <;> first | omega | decide) | (refine ⟨?_, ?_⟩ <;> walk_at "side") | rfl | (simp <;> omega) | decide)
local macro_rules | `(tactic| walk_at "kn") => `(tactic| first | assumption | decide | rfl)
local macro_rules | `(tactic| walk_at "br") => `(tactic| first | (with_reducible first | refine Br.t ?_ | refine Br.f ?_) | ((with_reducible refine Br.dec_t ?_ ?_); focus walk_at "kn") | ((with_reducible refine Br.dec_f ?_ ?_); focus walk_at "kn") | ((with_reducible refine Br.ndec_t ?_ ?_); focus walk_at "kn") | ((with_reducible refine Br.ndec_f ?_ ?_); focus walk_at "kn") | (with_reducible first | (refine Br.dec ?_ ?_ <;> intro _) | (refine Br.ndec ?_ ?_ <;> intro _)) | refine Br.t ?_ | refine Br.f ?_ | (with_reducible refine Br.mk ?_ ?_ <;> intro _))
local macro_rules | `(tactic| walk_at "st") => `(tactic| ((try (conv => whnf)); first
  | walk_at "br"
  | with_reducible (intro _)
  | (refine ⟨_, (by walk_at "has" : Has _ _ _), ?_⟩)
  | (refine ⟨_, (by walk_at "hasl" : HasL _ _ _), ?_⟩)
  | (refine ⟨_, _, (by walk_at "chg" : Chg _ _ _ _ _), ?_⟩)
  | (refine ⟨_, _, _, (by walk_at "chg" : Chg _ _ _ _ _), (by first | rfl | assumption : ixN _ _ = some _), ?_⟩)
  | (refine ⟨_, _, (by walk_at "sel" : Sel _ _ _ _), ?_⟩)
  | (refine ⟨_, _, _, (by walk_at "has" : Has _ _ _), (by assumption), ?_⟩)
  | (refine ⟨_, (by first | rfl | assumption : atI _ _ = some _), ?_⟩)
  | (refine And.intro (by walk_at "side") ?_)))
local macro_rules | `(tactic| walk_at "st2") => `(tactic| first | walk_at "st" | ((try (conv => whnf)); with_reducible refine And.intro ?_ ?_; rotate_left))
local macro_rules | `(tactic| walk_at "go") => `(tactic| first | ((try (conv => whnf)); walk_at "br" <;> walk_at "go") | (walk_at "st"; walk_at "go") | (conv => whnf) | skip)
theorem rd_law_words (cl : Cl) (ds : List D) (F R : LL) (Φ : DK) (h : S_law_words cl ds F R Φ) : t__law_words cl (endD Φ) (startD 0 ds) (F ++ R) := by
  obtain ⟨rfl, rfl, h⟩ := h
  walk_at "go"
  rename_i p
  exact Ret.mk _ .refl (h p)
theorem rd_law_fault (cl : Cl) (ds : List D) (F R : LL) (Φ : DK) (h : S_law_fault cl ds F R Φ) : t__law_fault cl (endD Φ) (startD 3 ds) (F ++ R) := by
  obtain ⟨q, ms, rfl, rfl, hz, h⟩ := h
  have hlen : ((ms.map D.int).length : Int) = ms.length := by simp
  have next : ∀ i : Nat, (∀ q, q ≤ i → q < ms.length → badN ms q = false) → (i + 1 < ms.length → badN ms (i + 1) = false) → ∀ q, q ≤ i + 1 → q < ms.length → badN ms q = false := fun i h2 h3 q hq hl => by
    rcases Nat.lt_or_ge q (i + 1) with h | h
    · exact h2 q (by omega) hl
    · have : q = i + 1 := by omega
      subst this
      exact h3 hl
  walk_at "go"
  refine ForI.inv (α := D) (fun i x => [some (.ref q), (if i = 0 then none else some x), none]) (fun _ _ => (q, intsO ms) :: R) (fun i _ => ∀ p, p ≤ 2 * i → p < ms.length → badN ms p = false) .non (by walk_at "sub") .refl (fun p hp _ => by
    have : p = 0 := by omega
    subst this
    rfl) ?_ ?_
  · intro i x d hd hi
    obtain ⟨hi2, rfl⟩ := rgD_get hd
    have hi3 : i < ms.length := by omega
    refine ⟨trivial, ?_⟩
    walk_at "go"
    refine ForI.inv (α := D) (fun j y => [some (.ref q), some (.int i), (if j = 0 then none else some y)]) (fun _ _ => (q, intsO ms) :: R) (fun j _ => ∀ p, p ≤ 2 * i + j → p < ms.length → badN ms p = false) .non ?_ .refl hi ?_ ?_
    · walk_at "sub"
      simp
    · intro j y d hd hj
      have hjd : ∃ c : Nat, c = 2 * i + j + 1 ∧ d = .int c ∧ (c - 1) / 2 = i := by
        match j, hd with
        | 0, hd =>
          refine ⟨2 * i + 1, rfl, ?_, by omega⟩
          rw [← Option.some.inj hd]
          simp
        | 1, hd =>
          refine ⟨2 * i + 2, rfl, ?_, by omega⟩
          rw [← Option.some.inj hd]
          simp
        | j + 2, hd => cases hd
      obtain ⟨c, hc, rfl, hci⟩ := hjd
      refine ⟨trivial, ?_⟩
      walk_at "go"
      · rename_i z
        have hc2 : c < ms.length := by omega
        refine ⟨_, atI_int c rfl hc2, ?_⟩
        walk_at "go"
        refine ⟨_, atI_int i rfl hi3, ?_⟩
        walk_at "go"
        · rename_i z2
          rw [faultN_some hc2 (by
            simp only [badN, keyN, hci, Bool.and_eq_true, decide_eq_true_eq]
            exact ⟨by omega, z2⟩) (fun q hq => hj q (by omega) (by omega))] at h
          refine Ret.mk _ ?_ h
          walk_at "cov"
        · rename_i z2
          refine Nx1.mk (.int c) ?_ (by walk_at "cov") ?_
          · walk_at "sub"
          · show ∀ p, p ≤ 2 * i + (j + 1) → p < ms.length → badN ms p = false
            refine next (2 * i + j) hj fun _ => ?_
            rw [show 2 * i + j + 1 = c by omega]
            simp only [badN, keyN, hci]
            simp
            intro _
            simpa using z2
      · rename_i z
        refine Nx1.mk (.int c) ?_ (by walk_at "cov") ?_
        · walk_at "sub"
        · show ∀ p, p ≤ 2 * i + (j + 1) → p < ms.length → badN ms p = false
          refine next (2 * i + j) hj fun hl => ?_
          omega
    · intro y hj
      refine ⟨trivial, ?_⟩
      walk_at "go"
      refine Nx1.mk (.int i) ?_ (by walk_at "cov") ?_
      · walk_at "sub"
      · intro p hp hl
        exact hj p (by show p ≤ 2 * i + 2; omega) hl
  · intro x hi
    refine ⟨trivial, ?_⟩
    walk_at "go"
    rw [rgD_length] at hi
    rw [faultN_none fun p hp => hi p (by omega) hp] at h
    exact Ret.mk _ .refl h
theorem call_wdraw {cl : Cl} {L R : LL} {Φ : DK} {p : Addr} {a b n z : Int} (N : Int) (hp : Pull L [(p, wellO a b n)] R) (h1 : 0 < z) (h2 : z < 2 ^ 100) (hw : WellOk b n N) (hN : N ≤ 1000000000) (k : ∀ d a' n' : Int, 0 ≤ d → d < z → WellOk b n' (N + 1) → Φ (.int d) ([(p, wellO a' b n')] ++ R)) : CtOf (S_law_draw cl) [.ref p, .int z] L Φ :=
  call_draw N hp h1 (divOk_of h1 h2) hw hN k
theorem rd_law_keys (cl : Cl) (ds : List D) (F R : LL) (Φ : DK) (h : S_law_keys cl ds F R Φ) : t__law_keys cl (endD Φ) (startD 7 ds) (F ++ R) := by
  obtain ⟨p, a, b, n, N, many, rfl, rfl, ⟨hz, hw, hN⟩, h⟩ := h
  walk_at "go"
  refine call_pick N [.int 1, .int 2, .int 3, .int 9, .int (10 ^ 30)] (by walk_at "pull") (by decide) (by decide) hw (by omega) ?_
  intro i x a1 n1 hx hw1
  have hx' : ∃ z : Int, x = .int z ∧ 0 < z ∧ z < 2 ^ 100 := by
    match i, hx with
    | 0, hx => exact ⟨1, (Option.some.inj hx).symm, by decide, by decide⟩
    | 1, hx => exact ⟨2, (Option.some.inj hx).symm, by decide, by decide⟩
    | 2, hx => exact ⟨3, (Option.some.inj hx).symm, by decide, by decide⟩
    | 3, hx => exact ⟨9, (Option.some.inj hx).symm, by decide, by decide⟩
    | 4, hx => exact ⟨10 ^ 30, (Option.some.inj hx).symm, by decide, by decide⟩
    | i + 5, hx => cases hx
  obtain ⟨z, rfl, z1, z2⟩ := hx'
  walk_at "go"
  refine call_wdraw (N + 1) (by walk_at "pull") (by decide) (by decide) hw1 (by omega) ?_
  intro way a2 n2 w1 w2 hw2
  walk_at "go"
  rename_i ql
  have hmany : (rgD 0 (many : Int)).length = many := by rw [rgD_length]; omega
  refine LcI.inv (α := List Int × Int × Int) (fun i x => (ql, intsO x.1) :: (p, wellO x.2.1 b x.2.2) :: R) (fun i x => x.1.length = i ∧ WellOk b x.2.2 (N + 2 + i)) ([], a2, n2) (by walk_at "cov") ⟨rfl, hw2.le (by simp; omega)⟩ ?_ ?_
  · rintro i ⟨xs, a3, n3⟩ d hd ⟨g1, g2⟩
    obtain ⟨hi, rfl⟩ := rgD_get hd
    dsimp only at g1 g2
    refine ⟨trivial, ?_⟩
    walk_at "go"
    refine call_wdraw (N + 2 + i) (by walk_at "pull") z1 z2 g2 (by omega) ?_
    intro v a4 n4 _ _ hw4
    walk_at "go"
    refine NxL.mk (xs ++ [v - 1], a4, n4) ?_ ⟨by simp; omega, hw4.le (by omega)⟩
    walk_at "cov"
    simp
  · rintro ⟨xs, a3, n3⟩ ⟨g1, g2⟩
    rw [hmany] at g1 g2
    dsimp only at g1 g2
    have hw6 : WellOk b n3 (N + 2100) := g2.le (by omega)
    refine ⟨trivial, ?_⟩
    dsimp only
    walk_at "go"
    · refine ⟨xs, rfl, ?_⟩
      intro ns' q hperm hsort
      walk_at "go"
      refine Ret.mk _ ?_ (h q ns' a3 n3 (by rw [hperm.length_eq]; exact g1) hw6)
      walk_at "cov"
    · refine ⟨xs, rfl, ?_⟩
      intro ns' q hperm hsort
      walk_at "go"
      rename_i q2
      refine Ret.mk _ ?_ (h q2 ns'.reverse a3 n3 (by rw [List.length_reverse, hperm.length_eq]; exact g1) hw6)
      walk_at "cov"
      simp
    · refine CtOf.mk [(ql, intsO xs)] _ (by walk_at "pull") ⟨.heapify, ql, many, xs, rfl, rfl, ⟨g1, by simp, by omega⟩, ?_⟩
      intro r s
      walk_at "go"
      rename_i q3
      have hok : DeedOk .heapify (.hon xs []) (List.range many) := deedOk_range g1 (by simp) (by omega)
      have hrow := makeT_row (k := .hon xs []) (many / 2) (List.range many) (by simp; omega) hok.2.2.2
      have hfin : ((deedT .heapify (List.range many)).fin xs).1 = ((makeT (many / 2) (List.range many)).fin xs) := by
        rw [deed_heapify, Tr.fin_bind, List.length_range]
        rfl
      have hrow2 := TrRow.ex hrow (Tr.ex_hon xs [] _ [])
      rw [hfin]
      generalize (makeT (many / 2) (List.range many)).fin xs = row at *
      obtain ⟨hr1, hr2⟩ := hrow2
      have hr1 : row.length = many := by simpa using hr1
      refine LcI.pure (xs := row) (toD := dn) (out := fun i => .int (xs.getD i 0)) rfl (fun _ => by walk_at "hasl") (by omega) ?_ ?_
      · intro x hx acc Ψ hk
        walk_at "go"
        refine ⟨_, atI_int x rfl (hr2 x hx), ?_⟩
        exact hk _ .refl
      · walk_at "go"
        refine Ret.mk _ ?_ (h q3 (row.map fun i => xs.getD i 0) a3 n3 (by simpa using hr1) hw6)
        walk_at "cov"
        simp
    · refine Ret.mk _ ?_ (h ql xs a3 n3 g1 hw6)
      walk_at "cov"
end DL

namespace DL
open PySem PySem.Spec PyProof.Rows L2
local macro_rules | `(tactic| walk_at "has") => `(tactic| first | exact Has.here | (apply Has.there; walk_at "has"))
local macro_rules | `(tactic| walk_at "hasl") => `(tactic| first | (refine Or.inl ?_; walk_at "has") | (refine Or.inr ?_; walk_at "has"))
local macro_rules | `(tactic| walk_at "sel") => `(tactic| first | exact Sel.here | (apply Sel.there; walk_at "sel"))
local macro_rules | `(tactic| walk_at "chg") => `(tactic| first | exact Chg.here | (apply Chg.there; walk_at "chg"))
local macro_rules | `(tactic| walk_at "pull") => `(tactic| first | exact Pull.nil | (apply Pull.cons; (walk_at "sel"); exact rfl; walk_at "pull"))
local macro_rules | `(tactic| walk_at "cov") => `(tactic| first | exact Cov.refl | (apply Cov.take; (walk_at "sel"); (first | exact rfl | assumption); walk_at "cov") | (apply Cov.take; (walk_at "sel"); rotate_left; walk_at "cov") | (refine Cov.drop ?_; walk_at "cov"))
local macro_rules | `(tactic| walk_at "sub") => `(tactic| first | exact Sub.nil | (refine Sub.same (by first | rfl | assumption) ?_; walk_at "sub") | (refine Sub.any ?_; walk_at "sub") | (refine Sub.same ?_ ?_; rotate_left; walk_at "sub"))
local macro_rules | `(tactic| walk_at "side") => `(tactic| first | assumption | (with_reducible rfl) | omega | (refine mulOk_r ?_ ?_ <;> first | omega | decide) | (refine mulOk_l ?_ ?_ <;> first | omega | decide) | (refine divOk_of ?_ ?_ <;> first | omega | decide) | (refine ⟨?_, ?_⟩ <;> walk_at "side") | rfl | (simp <;> omega) | decide)
local macro_rules | `(tactic| walk_at "kn") => `(tactic| first | assumption | decide | rfl)
local macro_rules | `(tactic| walk_at "br") => `(tactic| first | (with_reducible first | refine Br.t ?_ | refine Br.f ?_) | ((with_reducible refine Br.dec_t ?_ ?_); focus walk_at "kn") | ((with_reducible refine Br.dec_f ?_ ?_); focus walk_at "kn") | ((with_reducible refine Br.ndec_t ?_ ?_); focus walk_at "kn") | ((with_reducible refine Br.ndec_f ?_ ?_); focus walk_at "kn") | (with_reducible first | (refine Br.dec ?_ ?_ <;> intro _) | (refine Br.ndec ?_ ?_ <;> intro _)) | refine Br.t ?_ | refine Br.f ?_ | (with_reducible refine Br.mk ?_ ?_ <;> intro _))
local macro_rules | `(tactic| walk_at "st") => `(tactic| ((try (conv => whnf)); first
  | walk_at "br"
  | with_reducible (intro _)
  | (refine ⟨_, (by walk_at "has" : Has _ _ _), ?_⟩)
  | (refine ⟨_, (by walk_at "hasl" : HasL _ _ _), ?_⟩)
  | (refine ⟨_, _, (by walk_at "chg" : Chg _ _ _ _ _), ?_⟩)
  | (refine ⟨_, _, _, (by walk_at "chg" : Chg _ _ _ _ _), (by first | rfl | assumption : ixN _ _ = some _), ?_⟩)
  | (refine ⟨_, _, (by walk_at "sel" : Sel _ _ _ _), ?_⟩)
  | (refine ⟨_, _, _, (by walk_at "has" : Has _ _ _), (by assumption), ?_⟩)
  | (refine ⟨_, (by first | rfl | assumption : atI _ _ = some _), ?_⟩)
  | (refine And.intro (by walk_at "side") ?_)))
local macro_rules | `(tactic| walk_at "st2") => `(tactic| first | walk_at "st" | ((try (conv => whnf)); with_reducible refine And.intro ?_ ?_; rotate_left))
local macro_rules | `(tactic| walk_at "go") => `(tactic| first | ((try (conv => whnf)); walk_at "br" <;> walk_at "go") | (walk_at "st"; walk_at "go") | (conv => whnf) | skip)
theorem deepE.same {x y : D} {L : LL} {k : Bool → Prop} (p : PyData) (h1 : DpD L 9 x p) (h2 : DpD L 9 y p) (h : k true) : deepE x y L k := .mk p p h1 h2 (by rw [SeqAt.eqv_refl p h1.lay.1]; exact h)
theorem DpDs.nats {L : LL} {n : Nat} : ∀ xs : List Nat, DpDs L n (xs.map dn) (xs.map fun i => .int (i : Nat))
  | [] => .nil
  | _ :: r => .cons .int (DpDs.nats r)
theorem DpDs.quests {L : LL} {n : Nat} : ∀ xs : List (Nat × Nat), DpDs L (n + 1) (xs.map qD) (xs.map fun q => .tuple [.int (q.1 : Nat), .int (q.2 : Nat)])
  | [] => .nil
  | _ :: r => .cons (.tup (.cons .int (.cons .int .nil))) (DpDs.quests r)
def optP : Option Nat → PyData
  | none => .none
  | some n => .int n
theorem DpD.opt {L : LL} {n : Nat} (o : Option Nat) : DpD L n (optD o) (optP o) := by
  cases o with
  | none => exact .non
  | some n => exact .int
/-- what a deed returns: as data -/
def doneP (row : List Nat) (g : Option Nat) (qs : List (Nat × Nat)) : PyData := .tuple [.list (row.map fun i => .int (i : Nat)), optP g, .list (qs.map fun q => .tuple [.int (q.1 : Nat), .int (q.2 : Nat)])]
theorem DpD.done {L : LL} {r s : Addr} {row : List Nat} {g : Option Nat} {qs : List (Nat × Nat)} (h1 : HasL L r (row.map dn)) (h2 : HasL L s (qs.map qD)) : DpD L 9 (.tup [.ref r, optD g, .ref s]) (doneP row g qs) :=
  .tup (.cons (.lst h1 (DpDs.nats row)) (.cons (DpD.opt g) (.cons (.lst h2 (DpDs.quests qs)) .nil)))
theorem call_done {cl : Cl} {L R F : LL} {Φ : DK} {d : D} {ms : List Int} {w : Deed} {kk : Int} (hp : Pull L F R) (hd : seqF d ms F) (h1 : w = .pop ∨ w = .replace → 0 < ms.length) (h2 : ms.length ≤ 2500)
    (k : ∀ r s, Φ (.tup [.ref r, optD ((deedT w (List.range ms.length)).fin (allM w ms kk)).2, .ref s]) ((r, rowO ((deedT w (List.range ms.length)).fin (allM w ms kk)).1) :: (s, .lst ((((deedT w (List.range ms.length)).truth (allM w ms kk)).map pr).map qD)) :: (F ++ R))) : CtOf (S_deed_done cl) [.str w.str, d, keyD w kk] L Φ :=
  ⟨_, _, hp, w, d, ms, kk, rfl, hd, ⟨h1, h2⟩, k⟩
theorem call_fault {cl : Cl} {L R F : LL} {Φ : DK} {d : D} {ms : List Int} (hp : Pull L F R) (hd : seqF d ms F) (h2 : ms.length ≤ 2500) (k : Φ (optD (faultN ms)) (F ++ R)) : CtOf (S_heap_fault cl) [d] L Φ := ⟨_, _, hp, d, ms, rfl, hd, h2, k⟩
theorem call_lfault {cl : Cl} {L R : LL} {Φ : DK} {q : Addr} {ms : List Int} (hp : Pull L [(q, intsO ms)] R) (h2 : ms.length ≤ 2500) (k : Φ (optD (faultN ms)) ([(q, intsO ms)] ++ R)) : CtOf (S_law_fault cl) [.ref q] L Φ := ⟨_, _, hp, q, ms, rfl, rfl, h2, k⟩
theorem call_isheap {cl : Cl} {L R F : LL} {Φ : DK} {d : D} {ms : List Int} (hp : Pull L F R) (hd : seqF d ms F) (h2 : ms.length ≤ 2500) (k : Φ (.bl (faultN ms).isNone) (F ++ R)) : CtOf (S_is_heap cl) [d] L Φ := ⟨_, _, hp, d, ms, rfl, hd, h2, k⟩
theorem rd_law_right_s5 (cl : Cl) (R : LL) (Φ : DK) (p q hq r s : Addr) (w : Deed) (ms : List Int) (kk : Int) (wo : LO) (h1 : w = .pop ∨ w = .replace → 0 < ms.length) (h2 : ms.length ≤ 2500) (h : Φ (.bl true) ((p, wo) :: R)) :
    t__law_right_s5 cl (endD Φ) [some (.ref p), some (.str w.str), some (.ref q), none, some (keyD w kk), some (.ref hq), some (.tup [.ref r, optD ((deedT w (List.range ms.length)).fin (allM w ms kk)).2, .ref s]), none]
      ((p, wo) :: (q, intsO ms) :: (hq, intsO ms) :: (r, rowO ((deedT w (List.range ms.length)).fin (allM w ms kk)).1) :: (s, .lst ((((deedT w (List.range ms.length)).truth (allM w ms kk)).map pr).map qD)) :: R) := by
  have hT := Tr.truth_depth (allM w ms kk) (deedT w (List.range ms.length))
  have hT2 := deedT_depth (w := w) (row := List.range ms.length) (by simpa using h1) (by simp; omega)
  rw [List.length_range] at hT2
  have hok : DeedOk w (.hon (allM w ms kk) []) (List.range ms.length) := deedOk_range (by unfold allM; rcases more_or w with e | e <;> rw [e] <;> simp) h1 h2
  have hrow : ((deedT w (List.range ms.length)).fin (allM w ms kk)).1.length ≤ 2501 := by
    have := (deedT_fin hok).1
    rw [List.length_range] at this
    have hl : w.len ms.length ≤ ms.length + 1 := by cases w <;> simp [Deed.len] <;> omega
    omega
  walk_at "go"
  refine call_done (F := [(q, intsO ms)]) (by walk_at "pull") (.inl ⟨q, rfl, rfl⟩) h1 h2 ?_
  intro r1 s1
  walk_at "go"
  refine deepE.same _ (DpD.done (by walk_at "hasl") (by walk_at "hasl")) (DpD.done (by walk_at "hasl") (by walk_at "hasl")) ?_
  walk_at "go"
  refine deepE.ints (by walk_at "hasl") (by walk_at "hasl") ?_
  walk_at "go"
  show CtOf (S_deed_done cl) [.str w.str, .tup (ms.map .int), keyD w kk] _ _
  refine call_done (F := []) (by walk_at "pull") (.inr ⟨rfl, rfl⟩) h1 h2 ?_
  intro r2 s2
  walk_at "go"
  refine deepE.same _ (DpD.done (by walk_at "hasl") (by walk_at "hasl")) (DpD.done (by walk_at "hasl") (by walk_at "hasl")) ?_
  walk_at "go"
  refine call_fault (F := [(q, intsO ms)]) (by walk_at "pull") (.inl ⟨q, rfl, rfl⟩) h2 ?_
  walk_at "go"
  refine call_lfault (by walk_at "pull") h2 ?_
  have eqo : ∀ {L : LL} {Ψ : DK} (o : Option Nat), Ψ (.bl true) L → fEq (optD o) (optD o) L Ψ := fun {L Ψ} o k => by
    cases o with
    | none => exact deepE.same .none .non .non k
    | some n => show Ψ (.bl (decide ((n : Int) = n))) L; rw [decide_eq_true rfl]; exact k
  refine eqo _ ?_
  walk_at "go"
  refine call_isheap (F := []) (by walk_at "pull") (.inr ⟨rfl, rfl⟩) h2 ?_
  walk_at "go"
  refine call_lfault (by walk_at "pull") h2 ?_
  have e2 : decide ((faultN ms).isNone = isNon (optD (faultN ms))) = true := by
    rw [isNon_opt]
    simp
  walk_at "go"
  rw [e2]
  refine Ret.mk _ ?_ h
  walk_at "cov"
theorem rd_law_right_s3 (cl : Cl) (R : LL) (Φ : DK) (p q : Addr) (w : Deed) (ms : List Int) (kk : Int) (wo : LO) (h1 : w = .pop ∨ w = .replace → 0 < ms.length) (h2 : ms.length ≤ 2499) (h : Φ (.bl true) ((p, wo) :: R)) :
    t__law_right_s3 cl (endD Φ) [some (.ref p), some (.str w.str), some (.ref q), some (.bl (decide (w.more = 0))), some (keyD w kk), none, none, none] ((p, wo) :: (q, intsO ms) :: R) := by
  rcases more_or w with hm | hm
  · have ea : allM w ms kk = ms := by unfold allM; rw [if_neg (by omega)]
    walk_at "go"
    rename_i hq
    refine CtOf.mk [(q, intsO ms)] _ (by walk_at "pull") ⟨w, q, ms.length, ms, rfl, rfl, ⟨by omega, h1, by omega⟩, ?_⟩
    intro r s
    walk_at "go"
    have := rd_law_right_s5 cl R Φ p q hq r s w ms kk wo h1 (by omega) h
    rw [ea] at this
    refine Wk.mk _ _ ?_ ?_ this
    · walk_at "sub"
    · walk_at "cov"
  · have ea : allM w ms kk = ms ++ [kk] := by unfold allM; rw [if_pos hm]
    have ek : keyD w kk = .int kk := by unfold keyD; rw [if_pos hm]
    have hm' : ¬ w.more = 0 := by omega
    rw [ek]
    walk_at "go"
    rename_i hq x1 q2
    have ex : ms.map D.int ++ [D.int kk] = (ms ++ [kk]).map D.int := by simp
    rw [ex]
    refine CtOf.mk [(q2, intsO (ms ++ [kk]))] _ (by walk_at "pull") ⟨w, q2, ms.length, ms ++ [kk], rfl, rfl, ⟨by simp; omega, h1, by omega⟩, ?_⟩
    intro r s
    walk_at "go"
    have := rd_law_right_s5 cl R Φ p q hq r s w ms kk wo h1 (by omega) h
    rw [ea, ek] at this
    refine Wk.mk _ _ ?_ ?_ this
    · walk_at "sub"
    · walk_at "cov"
theorem rd_law_right_s2 (cl : Cl) (R : LL) (Φ : DK) (p q : Addr) (a b n N : Int) (w : Deed) (ms : List Int) (h1 : w = .pop ∨ w = .replace → 0 < ms.length) (h2 : ms.length ≤ 2499) (hw : WellOk b n N) (hN : N ≤ 900000000) (h : ∀ (a' n' : Int), WellOk b n' (N + 2) → Φ (.bl true) ([(p, wellO a' b n')] ++ R)) :
    t__law_right_s2 cl (endD Φ) [some (.ref p), some (.str w.str), some (.ref q), some (.bl (decide (w.more = 0))), none, none, none, none] ((p, wellO a b n) :: (q, intsO ms) :: R) := by
  rcases more_or w with hm | hm
  · have ek : keyD w 0 = .non := by unfold keyD; rw [if_neg (by omega)]
    walk_at "go"
    have := rd_law_right_s3 cl R Φ p q w ms 0 _ h1 h2 (h a n (hw.le (by omega)))
    rw [ek] at this
    refine Wk.mk _ _ ?_ ?_ this
    · walk_at "sub"
    · walk_at "cov"
  · have hm' : ¬ w.more = 0 := by omega
    have ek : ∀ kk, keyD w kk = .int kk := fun kk => by unfold keyD; rw [if_pos hm]
    walk_at "go"
    refine call_wdraw N (by walk_at "pull") (by decide) (by decide) hw (by omega) ?_
    intro v a1 n1 _ _ hw1
    walk_at "go"
    rename_i pl
    refine call_pick (N + 1) [.int 0, .int 1, .int (-2), .int (10 ^ 30), .int v] (by walk_at "pull") (by simp) (by simp) hw1 (by omega) ?_
    intro i x a2 n2 hx hw2
    have hx' : ∃ z : Int, x = .int z := by
      match i, hx with
      | 0, hx => exact ⟨_, (Option.some.inj hx).symm⟩
      | 1, hx => exact ⟨_, (Option.some.inj hx).symm⟩
      | 2, hx => exact ⟨_, (Option.some.inj hx).symm⟩
      | 3, hx => exact ⟨_, (Option.some.inj hx).symm⟩
      | 4, hx => exact ⟨_, (Option.some.inj hx).symm⟩
      | i + 5, hx => cases hx
    obtain ⟨z, rfl⟩ := hx'
    walk_at "go"
    have := rd_law_right_s3 cl R Φ p q w ms z _ h1 h2 (h a2 n2 (hw2.le (by omega)))
    rw [ek] at this
    refine Wk.mk _ _ ?_ ?_ this
    · walk_at "sub"
    · walk_at "cov"
theorem rd_law_right87 (cl : Cl) (ds : List D) (F R : LL) (Φ : DK) (h : S_law_right87 cl ds F R Φ) : t__law_right cl (endD Φ) (startD 8 ds) (F ++ R) := by
  obtain ⟨p, q, a, b, n, N, w, ms, rfl, rfl, ⟨hz, hw, hN⟩, h⟩ := h
  have hin : inD (.str w.str) [.str "heapify", .str "pop"] = decide (w.more = 0) := by cases w <;> decide +kernel
  have hin2 : inD (.str w.str) [.str "pop", .str "replace"] = decide (w = .pop ∨ w = .replace) := by cases w <;> decide +kernel
  walk_at "go"
  rw [hin]
  refine deepE.ints (ys := []) (by walk_at "hasl") (by walk_at "hasl") ?_
  walk_at "go"
  · rename_i p1 z1 z2 q2
    refine Wk.mk _ _ ?_ ?_ (rd_law_right_s2 cl R Φ p q2 a b n N w [4] (fun _ => by decide) (by decide) hw hN h)
    · walk_at "sub"
    · walk_at "cov"
  · rename_i p1 z1 z2
    rw [hin2] at z2
    refine Wk.mk _ _ ?_ ?_ (rd_law_right_s2 cl R Φ p q a b n N w ms (fun z => absurd z (of_decide_eq_false z2)) (by omega) hw hN h)
    · walk_at "sub"
    · walk_at "cov"
  · rename_i p1 z1
    refine Wk.mk _ _ ?_ ?_ (rd_law_right_s2 cl R Φ p q a b n N w ms (fun _ => List.length_pos_iff.mpr (of_decide_eq_false z1)) (by omega) hw hN h)
    · walk_at "sub"
    · walk_at "cov"
end DL

/-! k88: the law's defs -/
namespace DL
open PySem PySem.Spec PyProof.Rows L2
/-- what deed_told and the law's deed tell -/
def foundD (res : Rs (List Nat × Option Nat)) (r s : Addr) : D := match res with
  | .ok a _ => .tup [.ref r, optD a.2, .non, .ref s]
  | .no _ i j _ => .tup [.ref r, .non, qD (i, j), .ref s]
def rsRow (res : Rs (List Nat × Option Nat)) : List Nat := match res with
  | .ok a _ => a.1
  | .no st _ _ _ => st
def rsLog (res : Rs (List Nat × Option Nat)) : Log := match res with
  | .ok _ lg => lg
  | .no _ _ _ lg => lg
def foundF (res : Rs (List Nat × Option Nat)) (r s : Addr) : LL := [(r, rowO (rsRow res)), (s, .lst (((rsLog res).map pr).map qD))]
/-- more answers than questions -/
def tooMany (as : List Bool) (res : Rs (List Nat × Option Nat)) : Prop := match res with
  | .ok _ lg => lg.length < as.length
  | .no _ _ _ _ => False
theorem deedOut_all {R : LL} {Φ : DK} {res : Rs (List Nat × Option Nat)} (h : ∀ r s, Φ (foundD res r s) (foundF res r s ++ R)) : deedOut R Φ res := by
  cases res with
  | ok a lg => exact h
  | no st i j lg => exact h
theorem toldOut_all {as : List Bool} {R : LL} {Φ : DK} {Ψ : XC} {res : Rs (List Nat × Option Nat)} (n : ¬ tooMany as res) (h : ∀ r s, Φ (foundD res r s) (foundF res r s ++ R)) : toldOut as R Φ Ψ res := by
  cases res with
  | ok a lg =>
    show if lg.length < as.length then _ else _
    rw [if_neg (show ¬ lg.length < as.length from n)]
    exact h
  | no st i j lg => exact h
theorem toldOut_many {as : List Bool} {R : LL} {Φ : DK} {Ψ : XC} {res : Rs (List Nat × Option Nat)} (n : tooMany as res) (h : ∀ p, Ψ .answers p ((p, .xd [(20, .int (rsLog res).length)]) :: R)) : toldOut as R Φ Ψ res := by
  cases res with
  | ok a lg =>
    show if lg.length < as.length then _ else _
    rw [if_pos (show lg.length < as.length from n)]
    exact h
  | no st i j lg => exact n.elim
def S_law_items_right (cl : Cl) : Sc := fun ds F R Φ => ∃ (w : Deed) (many : Nat) (r s : Addr) (res : Rs (List Nat × Option Nat)), ds = [.str w.str, .int many, foundD res r s] ∧ F = foundF res r s ∧ (many ≤ 2500 ∧ (w = .pop ∨ w = .replace → 0 < many) ∧ LeftOk w many [] res) ∧ Φ (.bl true) R
def C__law_items_right (cl : Cl) : Ct := CtOf (S_law_items_right cl)
abbrev at88 : Str × Option Str := ("_law_right", none)
abbrev tabF (cl : Cl) : Addr × LO := (0, .gh (TabG cl at88))
def S_law_right88 (cl : Cl) : Sc := fun ds F R Φ => ∃ (p : Addr) (a b n N : Int) (w : Deed) (many : Nat), ds = [.ref p, .str w.str, .int many] ∧ F = [(p, wellO a b n), tabF cl] ∧ (many ≤ 2500 ∧ (w = .pop ∨ w = .replace → 0 < many) ∧ WellOk b n N ∧ N ≤ 900000000 ∧ (∀ as, (AK.told as).live cl) ∧ XT.answers ∈ cl.xts) ∧
  ∀ (a' n' : Int), WellOk b n' (N + 8000) → Φ (.bl true) ([(p, wellO a' b n'), tabF cl] ++ R)
def C__law_right88 (cl : Cl) : Ct := CtOf (S_law_right88 cl)
def S_law_honest_right (cl : Cl) : Sc := fun ds F R Φ => ∃ (p : Addr) (a b n N : Int) (w : Deed) (many : Nat), ds = [.ref p, .str w.str, .int many] ∧ F = [(p, wellO a b n)] ∧ (many ≤ 2000 ∧ (w = .pop ∨ w = .replace → 0 < many) ∧ WellOk b n N ∧ N ≤ 900000000 ∧ (∀ as, (AK.told as).live cl)) ∧
  ∀ (a' n' : Int), WellOk b n' (N + 8000) → Φ (.bl true) ([(p, wellO a' b n')] ++ R)
def C__law_honest_right (cl : Cl) : Ct := CtOf (S_law_honest_right cl)
def S_law88 (cl : Cl) : Sc := fun ds F R Φ => ∃ (a : Addr) (ns : List Int), ds = [.ref a] ∧ (F = [(a, .ro (ns.map .int)), tabF cl] ∨ F = [(a, .lst (ns.map .int)), tabF cl]) ∧ (ns.length ≤ 63 ∧ (∀ as, (AK.told as).live cl) ∧ XT.answers ∈ cl.xts) ∧ Φ (.bl true) R
def C_law88 (cl : Cl) : Ct := CtOf (S_law88 cl)
def t__law_items_right (cl : Cl) : TS' :=
  tSeq' (tAsg' (tVar' 2) (gTup' 4 (gCons' (gName' 5) (gCons' (gName' 6) (gCons' (gName' 7) (gCons' (gName' 8) (gNil')))))))
  (tSeq' (tAsg' (tLstRg1' (tBin' fAdd (tVar' 1) (tCB' fInt (tCons' (tOrV' (tBin' fEq (tVar' 0) (tC' (.str "push"))) (tBin' fIn (tVar' 0) (tTup' (tCons' (tC' (.str "replace")) (tCons' (tC' (.str "pushpop")) (tNil')))))) (tNil'))))) (gName' 3))
  (tSeq' (tIfS' (tTst' (tBin' fIsNot (tVar' 6) (tC' .non))) (tRet' (tBin' fEq (tCB' fSorted (tCons' (tBin' fAdd (tVar' 5) (tLst' (tCons' (tVar' 6) (tNil')))) (tNil'))) (tVar' 3))) (tNext'))
  (tSeq' (tIfS' (tTst' (tBin' fIs (tVar' 7) (tC' .non))) (tRet' (tBin' fEq (tCB' fSorted (tCons' (tVar' 5) (tNil'))) (tVar' 3))) (tNext'))
  (tSeq' (tAsg' (tLc' (iSeq' (tVar' 3)) (gName' 9) (tTst' (tBin' fNotIn (tVar' 9) (tVar' 5))) (tVar' 9) [9]) (gName' 4))
  (tSeq' (tIfS' (tAnd' (tTst' (tBin' fEq (tVar' 0) (tC' (.str "pushpop")))) (tTst' (tBin' fEq (tVar' 8) (tLst' (tNil'))))) (tRet' (tAndV' (tBin' fEq (tVar' 4) (tLst' (tCons' (tVar' 1) (tNil')))) (tBin' fEq (tVar' 5) (tSl' (tVar' 3) (tNoPart') (tPart' (tNeg' (tC' (.int 1)))))))) (tNext'))
  (tSeq' (tIfS' (tTst' (tBin' fIn (tVar' 0) (tTup' (tCons' (tC' (.str "pop")) (tCons' (tC' (.str "replace")) (tCons' (tC' (.str "pushpop")) (tNil'))))))) (tRet' (tBin' fEq (tVar' 4) (tLst' (tCons' (tC' (.int 0)) (tNil'))))) (tNext'))
  (tRet' (tBin' fEq (tVar' 4) (tLst' (tNil'))))))))))
-- word many found due missing order given question log item
def t__law_right88_s4 (cl : Cl) : TS' :=
  tSeq' (tAsg' (tCallX' XW.no (C_deed_told cl) [] (tCons' (tVar' 1) (tCons' (tVar' 2) (tCons' (tCB' fTuple (tCons' (tVar' 4) (tNil'))) (tNil'))))) (gName' 6))
  (tSeq' (tIfS' (tOr' (tTst' (tBin' fNe (tVar' 6) (tVar' 5))) (tOr' (tNot' (tTru' (tIsi' .tp (tVar' 6)))) (tTst' (tBin' fNe (tCallX' XW.no (C_deed_told cl) [] (tCons' (tVar' 1) (tCons' (tVar' 2) (tCons' (tVar' 4) (tNil'))))) (tVar' 5))))) (tRet' (tC' (.bl false))) (tNext'))
  (tRet' (tCall' (C__law_items_right cl) [] (tCons' (tVar' 1) (tCons' (tVar' 2) (tCons' (tVar' 6) (tNil')))))))
def t__law_right88 (cl : Cl) : TS' :=
  tSeq' (tAsg' (tCall' (C__law_draw cl) [] (tCons' (tVar' 0) (tCons' (tC' (.int 4)) (tNil')))) (gName' 3))
  (tSeq' (tAsg' (tLc' (iRng1' (tCons' (tCall' (C__law_draw cl) [] (tCons' (tVar' 0) (tCons' (tBin' fAdd (tBin' fMul (tC' (.int 3)) (tVar' 2)) (tC' (.int 4))) (tNil')))) (tNil'))) (gName' 7) (tYes') (tOrV' (tBin' fEq (tVar' 3) (tC' (.int 0))) (tAndV' (tBin' fGt (tVar' 3) (tC' (.int 1))) (tBin' fEq (tCall' (C__law_draw cl) [] (tCons' (tVar' 0) (tCons' (tC' (.int 2)) (tNil')))) (tC' (.int 0))))) [7]) (gName' 4))
  (tSeq' (tAsg' (tCall' (C__law_deed cl) [] (tCons' (tVar' 1) (tCons' (tVar' 2) (tCons' (tVar' 4) (tNil'))))) (gName' 5))
  (tSeq' (tIfS' (tAnd' (tTst' (tBin' fIs (tBin' fIx (tVar' 5) (tC' (.int 2))) (tC' .non))) (tTst' (tBin' fLt (tCB' fLen (tCons' (tBin' fIx (tVar' 5) (tC' (.int 3))) (tNil'))) (tCB' fLen (tCons' (tVar' 4) (tNil')))))) (tSeq' (tIfS' (tTst' (tBin' fNe (tLam' (HasT (cl.tb ("_law_right", none)) (quOf ("_law_right", none) ++ ".<locals>." ++ "<lambda>")) (t__law_word cl) 2 (fun V1 => tCallX' V1 (C_deed_told cl) [] (tCons' (tVar' 1) (tCons' (tVar' 2) (tCons' (tVar' 4) (tNil')))))) (tTup' (tCons' (tC' (.str "answers")) (tCons' (tCB' fLen (tCons' (tBin' fIx (tVar' 5) (tC' (.int 3))) (tNil'))) (tNil')))))) (tRet' (tC' (.bl false))) (tNext'))
  (tAsg' (tSl' (tVar' 4) (tNoPart') (tPart' (tCB' fLen (tCons' (tBin' fIx (tVar' 5) (tC' (.int 3))) (tNil'))))) (gName' 4))) (tNext'))
  (tWk' (t__law_right88_s4 cl)))))
-- well word many side answers due found turn
def t__law_honest_right_s4 (cl : Cl) : TS' :=
  tRet' (tAndV' (tBin' fEq (tCallX' XW.no (C_deed_told cl) [] (tCons' (tVar' 1) (tCons' (tVar' 2) (tCons' (tVar' 4) (tNil'))))) (tTup' (tCons' (tVar' 6) (tCons' (tVar' 7) (tCons' (tC' .non) (tCons' (tVar' 8) (tNil'))))))) (tBin' fEq (tBin' fIx (tCall' (C_deed_done cl) [] (tCons' (tVar' 1) (tCons' (tSl' (tVar' 3) (tNoPart') (tPart' (tVar' 2))) (tCons' (tVar' 5) (tNil'))))) (tC' (.int 2))) (tVar' 8)))
def t__law_honest_right (cl : Cl) : TS' :=
  tSeq' (tAsg' (tLc' (iRng1' (tCons' (tBin' fAdd (tVar' 2) (tCB' fInt (tCons' (tBin' fIn (tVar' 1) (tTup' (tCons' (tC' (.str "push")) (tCons' (tC' (.str "replace")) (tCons' (tC' (.str "pushpop")) (tNil')))))) (tNil')))) (tNil'))) (gName' 9) (tYes') (tCall' (C__law_draw cl) [] (tCons' (tVar' 0) (tCons' (tC' (.int 5)) (tNil')))) [9]) (gName' 3))
  (tSeq' (tAsg' (tCall' (C__law_honest cl) [] (tCons' (tVar' 1) (tCons' (tVar' 3) (tNil')))) (gTup' 3 (gCons' (gName' 6) (gCons' (gName' 7) (gCons' (gName' 8) (gNil'))))))
  (tSeq' (tAsg' (tLc' (iSeq' (tVar' 8)) (gTup' 2 (gCons' (gName' 10) (gCons' (gName' 11) (gNil')))) (tYes') (tBin' fLt (tBin' fIx (tVar' 3) (tVar' 10)) (tBin' fIx (tVar' 3) (tVar' 11))) [10, 11]) (gName' 4))
  (tSeq' (tAsg' (tIf' (tTst' (tBin' fGt (tCB' fLen (tCons' (tVar' 3) (tNil'))) (tVar' 2))) (tBin' fIx (tVar' 3) (tNeg' (tC' (.int 1)))) (tC' .non)) (gName' 5))
  (tWk' (t__law_honest_right_s4 cl)))))
-- well word many marks answers mark order given log item one other
end DL

namespace DL
open PySem PySem.Spec PyProof.Rows L2
local macro_rules | `(tactic| walk_at "has") => `(tactic| first | exact Has.here | (apply Has.there; walk_at "has"))
local macro_rules | `(tactic| walk_at "hasl") => `(tactic| first | (refine Or.inl ?_; walk_at "has") | (refine Or.inr ?_; walk_at "has"))
local macro_rules | `(tactic| walk_at "sel") => `(tactic| first | exact Sel.here | (apply Sel.there; walk_at "sel"))
local macro_rules | `(tactic| walk_at "chg") => `(tactic| first | exact Chg.here | (apply Chg.there; walk_at "chg"))
local macro_rules | `(tactic| walk_at "pull") => `(tactic| first | exact Pull.nil | (apply Pull.cons; (walk_at "sel"); exact rfl; walk_at "pull"))
local macro_rules | `(tactic| walk_at "cov") => `(tactic| first | exact Cov.refl | (apply Cov.take; (walk_at "sel"); (first | exact rfl | assumption); walk_at "cov") | (apply Cov.take; (walk_at "sel"); rotate_left; walk_at "cov") | (refine Cov.drop ?_; walk_at "cov"))
local macro_rules | `(tactic| walk_at "sub") => `(tactic| first | exact Sub.nil | (refine Sub.same (by first | rfl | assumption) ?_; walk_at "sub") | (refine Sub.any ?_; walk_at "sub") | (refine Sub.same ?_ ?_; rotate_left; walk_at "sub"))
local macro_rules | `(tactic| walk_at "side") => `(tactic| first | assumption | (with_reducible rfl) | omega | (refine mulOk_r ?_ ?_ <;> first | omega | decide) | (refine mulOk_l ?_ ?_ <;> first | omega | decide) | (refine divOk_of ?_ ?_ <;> first | omega | decide) | (refine ⟨?_, ?_⟩ <;> walk_at "side") | rfl | (simp <;> omega) | decide)
local macro_rules | `(tactic| walk_at "kn") => `(tactic| first | assumption | decide | rfl)
local macro_rules | `(tactic| walk_at "br") => `(tactic| first | (with_reducible first | refine Br.t ?_ | refine Br.f ?_) | ((with_reducible refine Br.dec_t ?_ ?_); focus walk_at "kn") | ((with_reducible refine Br.dec_f ?_ ?_); focus walk_at "kn") | ((with_reducible refine Br.ndec_t ?_ ?_); focus walk_at "kn") | ((with_reducible refine Br.ndec_f ?_ ?_); focus walk_at "kn") | (with_reducible first | (refine Br.dec ?_ ?_ <;> intro _) | (refine Br.ndec ?_ ?_ <;> intro _)) | refine Br.t ?_ | refine Br.f ?_ | (with_reducible refine Br.mk ?_ ?_ <;> intro _))
local macro_rules | `(tactic| walk_at "st") => `(tactic| ((try (conv => whnf)); first
  | walk_at "br"
  | with_reducible (intro _)
  | (refine ⟨_, (by walk_at "has" : Has _ _ _), ?_⟩)
  | (refine ⟨_, (by walk_at "hasl" : HasL _ _ _), ?_⟩)
  | (refine ⟨_, _, (by walk_at "chg" : Chg _ _ _ _ _), ?_⟩)
  | (refine ⟨_, _, _, (by walk_at "chg" : Chg _ _ _ _ _), (by first | rfl | assumption : ixN _ _ = some _), ?_⟩)
  | (refine ⟨_, _, (by walk_at "sel" : Sel _ _ _ _), ?_⟩)
  | (refine ⟨_, _, _, (by walk_at "has" : Has _ _ _), (by assumption), ?_⟩)
  | (refine ⟨_, (by first | rfl | assumption : atI _ _ = some _), ?_⟩)
  | (refine And.intro (by walk_at "side") ?_)))
local macro_rules | `(tactic| walk_at "st2") => `(tactic| first | walk_at "st" | ((try (conv => whnf)); with_reducible refine And.intro ?_ ?_; rotate_left))
local macro_rules | `(tactic| walk_at "go") => `(tactic| first | ((try (conv => whnf)); walk_at "br" <;> walk_at "go") | (walk_at "st"; walk_at "go") | (conv => whnf) | skip)
theorem cast_sorted (n : Nat) : ((List.range n).map (fun i : Nat => (i : Int))).Pairwise (· ≤ ·) := by
  rw [List.pairwise_map]
  exact List.pairwise_lt_range.imp fun h => by omega
theorem sorted_range {xs : List Nat} {n : Nat} {ns : List Int} (h : xs.Perm (List.range n)) (p : ns.Perm (xs.map fun i : Nat => (i : Int))) (s : ns.Pairwise (· ≤ ·)) : ns = (List.range n).map fun i : Nat => (i : Int) :=
  List.Perm.eq_of_pairwise (le := (· ≤ ·)) (fun a b _ _ h1 h2 => Int.le_antisymm h1 h2) s (cast_sorted n) (p.trans (h.map _))
theorem dn_ints (xs : List Nat) : xs.map dn = (xs.map fun i : Nat => (i : Int)).map D.int := by simp [dn]
/-- the items of a whole range that are not in a row -/
theorem missing_of {st : List Nat} {n : Nat} {k : Nat} (h : (st ++ [k]).Perm (List.range n)) : (List.range n).filter (fun i => !st.contains i) = [k] := by
  have nd : (st ++ [k]).Nodup := h.nodup_iff.mpr List.nodup_range
  have hk : k ∉ st := fun z => (List.nodup_append.mp nd).2.2 k z k (by simp) rfl
  have hs : ((List.range n).filter (fun i => !st.contains i)).Perm [k] := by
    refine (h.symm.filter _).trans ?_
    rw [List.filter_append]
    have e1 : st.filter (fun i => !st.contains i) = [] := by
      rw [List.filter_eq_nil_iff]
      intro x hx
      simp [hx]
    rw [e1]
    simp [hk]
  exact List.perm_singleton.mp hs
theorem missing_none {st : List Nat} {n : Nat} (h : st.Perm (List.range n)) : (List.range n).filter (fun i => !st.contains i) = [] := by
  rw [List.filter_eq_nil_iff]
  intro x hx
  simp [h.mem_iff.mpr hx]
theorem inD_dn (x : Nat) : ∀ st : List Nat, inD (dn x) (st.map dn) = st.contains x
  | [] => rfl
  | y :: r => by
    show (eqV (.int (y : Nat)) (.int (x : Nat)) || inD (dn x) (r.map dn)) = _
    rw [inD_dn x r, List.contains_cons]
    congr 1
    show eqV (.int (y : Nat)) (.int (x : Nat)) = (x == y)
    have e : eqV (.int (y : Nat)) (.int (x : Nat)) = decide ((y : Int) = (x : Int)) := rfl
    rw [e]
    by_cases h : y = x
    · subst h; simp
    · have h2 : ¬ x = y := fun e => h e.symm
      have h3 : ¬ (y : Int) = (x : Int) := by omega
      simp [h2, h3]
theorem quests8 {L : LL} (qs : List (Nat × Nat)) : DpDs L 8 (qs.map qD) (qs.map fun q => .tuple [.int (q.1 : Nat), .int (q.2 : Nat)]) := DpDs.quests qs
theorem rd_law_items_right (cl : Cl) (ds : List D) (F R : LL) (Φ : DK) (h : S_law_items_right cl ds F R Φ) : t__law_items_right cl (endD Φ) (startD 10 ds) (F ++ R) := by
  obtain ⟨w, many, r, s, res, rfl, rfl, ⟨h1, h2, h3⟩, h⟩ := h
  have hin : inD (.str w.str) [.str "replace", .str "pushpop"] = decide (w = .replace ∨ w = .pushpop) := by cases w <;> decide +kernel
  have hin2 : inD (.str w.str) [.str "pop", .str "replace", .str "pushpop"] = decide (w = .pop ∨ w = .replace ∨ w = .pushpop) := by cases w <;> decide +kernel
  have e1 : w ≠ .push → rgD 0 ((many : Int) + (if decide (w = .replace ∨ w = .pushpop) = true then 1 else 0)) = ((List.range (many + w.more)).map fun i : Nat => (i : Int)).map D.int := fun z => by
    rw [← dn_ints, ← range_dn]
    congr 1
    cases w <;> first | exact absurd rfl z | simp [Deed.more]
  have e3 : rgD 0 ((many : Int) + (if decide (Deed.push.str = Str.ofString "push") = true then 1 else 0)) = ((List.range (many + Deed.push.more)).map fun i : Nat => (i : Int)).map D.int := by
    rw [← dn_ints, ← range_dn, show decide (Deed.push.str = Str.ofString "push") = true by decide]
    congr 1
  rcases res with ⟨⟨row, _ | n⟩, lg⟩ | ⟨st, i, j, lg⟩
  · have h4 : row.Perm (List.range (many + w.more)) := h3
    cases w
    all_goals
      walk_at "go"
      refine ⟨row.map fun i : Nat => (i : Int), dn_ints row, ?_⟩
      intro ns' q hp hs
      have e2 := sorted_range h4 hp hs
      walk_at "go"
      try rw [hin, e1 (by decide)]
      try rw [e3]
      refine deepE.ints (by walk_at "hasl") (by walk_at "hasl") ?_
      rw [e2, decide_eq_true rfl]
      exact Ret.mk _ (by walk_at "cov") h
  · have h4 : (row ++ [n]).Perm (List.range (many + w.more)) := h3
    have hlen := h4.length_eq
    rw [List.length_append, List.length_range, List.length_singleton] at hlen
    have hm : w.more ≤ 1 := by cases w <;> decide
    have hlen : (List.map dn (rsRow (Rs.ok (row, some n) lg))).length + [optD (row, some n).snd].length ≤ 1000000 := by
      show (row.map dn).length + 1 ≤ 1000000
      rw [List.length_map]
      omega
    cases w
    all_goals
      walk_at "go"
      refine ⟨(row ++ [n]).map fun i : Nat => (i : Int), (by show row.map dn ++ [dn n] = _; simp [dn]), ?_⟩
      intro ns' q hp hs
      have e2 := sorted_range h4 hp hs
      walk_at "go"
      try rw [hin, e1 (by decide)]
      try rw [e3]
      refine deepE.ints (by walk_at "hasl") (by walk_at "hasl") ?_
      rw [e2, decide_eq_true rfl]
      exact Ret.mk _ (by walk_at "cov") h
  · have fm : ∀ m : Nat, (List.range m).filterMap (fun x => if st.contains x = true then none else some (dn x)) = ((List.range m).filter fun x => !st.contains x).map dn := fun m => by
      rw [← List.filterMap_eq_map, List.filterMap_filter]
      congr 1
      funext x
      cases st.contains x <;> rfl
    have ef : (st.map dn).all flatD = true := by rw [List.all_eq_true]; intro x hx; obtain ⟨y, _, rfl⟩ := List.mem_map.mp hx; rfl
    cases w
    all_goals
      walk_at "go"
      try rw [hin, e1 (by decide)]
      try rw [e3]
      rw [← dn_ints]
      refine LcI.sel (xs := List.range (many + _)) (toD := dn) (out := fun x => if st.contains x = true then none else some (dn x)) rfl (fun _ => by walk_at "hasl") (by simp [Deed.more]; omega) ?_ ?_
      · intro x hx acc Ψ Z hk
        have hk := hk _ .refl
        have hc := inD_dn x st
        walk_at "go"
        · rename_i z
          change (!inD (dn x) (st.map dn)) = true at z
          have z : st.contains x = false := by rw [← hc]; simpa using z
          rw [z] at hk
          exact hk
        · rename_i z
          change (!inD (dn x) (st.map dn)) = false at z
          have z : st.contains x = true := by rw [← hc]; simpa using z
          rw [z] at hk
          exact hk
      rw [fm]
    · rw [missing_none (n := many + Deed.heapify.more) h3]
      walk_at "go"
      · refine deepE.nats (xs := []) (ys := []) (by walk_at "hasl") (by walk_at "hasl") ?_
        exact Ret.mk _ (by walk_at "cov") h
    · rw [missing_none (n := many + Deed.push.more) h3]
      walk_at "go"
      · refine deepE.nats (xs := []) (ys := []) (by walk_at "hasl") (by walk_at "hasl") ?_
        exact Ret.mk _ (by walk_at "cov") h
    · rw [missing_of (n := many + Deed.pop.more) h3]
      walk_at "go"
      · refine deepE.nats (xs := [0]) (ys := [0]) (by walk_at "hasl") (by walk_at "hasl") ?_
        exact Ret.mk _ (by walk_at "cov") h
    · rw [missing_of (n := many + Deed.replace.more) h3]
      walk_at "go"
      · refine deepE.nats (xs := [0]) (ys := [0]) (by walk_at "hasl") (by walk_at "hasl") ?_
        exact Ret.mk _ (by walk_at "cov") h
    · rcases lg with _ | ⟨e, lg⟩
      · have h4 : st = List.range many := by
          have h5 : (if ([] : Log) = [] then st = List.range many else (st ++ [0]).Perm (List.range (many + 1))) := h3
          rw [if_pos rfl] at h5
          exact h5
        subst h4
        rw [missing_of (n := many + Deed.pushpop.more) (k := many) (by show (List.range many ++ [many]).Perm (List.range (many + 1)); rw [List.range_succ])]
        walk_at "go"
        refine deepE.nats (xs := []) (ys := []) (by walk_at "hasl") (by walk_at "hasl") ?_
        walk_at "go"
        refine deepE.nats (xs := [many]) (ys := [many]) (by walk_at "hasl") (by walk_at "hasl") ?_
        rw [decide_eq_true rfl]
        walk_at "go"
        refine deepE.nats (xs := List.range many) (ys := List.range many) (by walk_at "hasl") ?_ ?_
        · rw [show (List.range (many + Deed.pushpop.more)).map dn = (List.range many).map dn ++ [dn many] by show (List.range (many + 1)).map dn = _; rw [List.range_succ]; simp, cutD_init]
          walk_at "hasl"
        · rw [decide_eq_true rfl]
          exact Ret.mk _ (by walk_at "cov") h
      · have h4 : (st ++ [0]).Perm (List.range (many + 1)) := by
          have h5 : (if (e :: lg : Log) = [] then st = List.range many else (st ++ [0]).Perm (List.range (many + 1))) := h3
          rw [if_neg (by simp)] at h5
          exact h5
        rw [missing_of (n := many + Deed.pushpop.more) h4]
        walk_at "go"
        refine deepE.mk (.list (((e :: lg).map pr).map fun q => .tuple [.int (q.1 : Nat), .int (q.2 : Nat)])) (.list []) (.lst (by walk_at "hasl") (quests8 _)) (.lst (by walk_at "hasl") .nil) ?_
        walk_at "go"
        · refine deepE.nats (xs := [0]) (ys := [0]) (by walk_at "hasl") (by walk_at "hasl") ?_
          exact Ret.mk _ (by walk_at "cov") h
end DL

namespace DL
open PySem PySem.Spec PyProof.Rows L2
local macro_rules | `(tactic| walk_at "has") => `(tactic| first | exact Has.here | (apply Has.there; walk_at "has"))
local macro_rules | `(tactic| walk_at "hasl") => `(tactic| first | (refine Or.inl ?_; walk_at "has") | (refine Or.inr ?_; walk_at "has"))
local macro_rules | `(tactic| walk_at "sel") => `(tactic| first | exact Sel.here | (apply Sel.there; walk_at "sel"))
local macro_rules | `(tactic| walk_at "chg") => `(tactic| first | exact Chg.here | (apply Chg.there; walk_at "chg"))
local macro_rules | `(tactic| walk_at "pull") => `(tactic| first | exact Pull.nil | (apply Pull.cons; (walk_at "sel"); exact rfl; walk_at "pull"))
local macro_rules | `(tactic| walk_at "cov") => `(tactic| first | exact Cov.refl | (apply Cov.take; (walk_at "sel"); (first | exact rfl | assumption); walk_at "cov") | (apply Cov.take; (walk_at "sel"); rotate_left; walk_at "cov") | (refine Cov.drop ?_; walk_at "cov"))
local macro_rules | `(tactic| walk_at "sub") => `(tactic| first | exact Sub.nil | (refine Sub.same (by first | rfl | assumption) ?_; walk_at "sub") | (refine Sub.any ?_; walk_at "sub") | (refine Sub.same ?_ ?_; rotate_left; walk_at "sub"))
local macro_rules | `(tactic| walk_at "side") => `(tactic| first | assumption | (with_reducible rfl) | omega | (refine mulOk_r ?_ ?_ <;> first | omega | decide) | (refine mulOk_l ?_ ?_ <;> first | omega | decide) | (refine divOk_of ?_ ?_ <;> first | omega | decide) | (refine ⟨?_, ?_⟩ <;> walk_at "side") | rfl | (simp <;> omega) | decide)
local macro_rules | `(tactic| walk_at "kn") => `(tactic| first | assumption | decide | rfl)
local macro_rules | `(tactic| walk_at "br") => `(tactic| first | (with_reducible first | refine Br.t ?_ | refine Br.f ?_) | ((with_reducible refine Br.dec_t ?_ ?_); focus walk_at "kn") | ((with_reducible refine Br.dec_f ?_ ?_); focus walk_at "kn") | ((with_reducible refine Br.ndec_t ?_ ?_); focus walk_at "kn") | ((with_reducible refine Br.ndec_f ?_ ?_); focus walk_at "kn") | (with_reducible first | (refine Br.dec ?_ ?_ <;> intro _) | (refine Br.ndec ?_ ?_ <;> intro _)) | refine Br.t ?_ | refine Br.f ?_ | (with_reducible refine Br.mk ?_ ?_ <;> intro _))
local macro_rules | `(tactic| walk_at "st") => `(tactic| ((try (conv => whnf)); first
  | walk_at "br"
  | with_reducible (intro _)
  | (refine ⟨_, (by walk_at "has" : Has _ _ _), ?_⟩)
  | (refine ⟨_, (by walk_at "hasl" : HasL _ _ _), ?_⟩)
  | (refine ⟨_, _, (by walk_at "chg" : Chg _ _ _ _ _), ?_⟩)
  | (refine ⟨_, _, _, (by walk_at "chg" : Chg _ _ _ _ _), (by first | rfl | assumption : ixN _ _ = some _), ?_⟩)
  | (refine ⟨_, _, (by walk_at "sel" : Sel _ _ _ _), ?_⟩)
  | (refine ⟨_, _, _, (by walk_at "has" : Has _ _ _), (by assumption), ?_⟩)
  | (refine ⟨_, (by first | rfl | assumption : atI _ _ = some _), ?_⟩)
  | (refine And.intro (by walk_at "side") ?_)))
local macro_rules | `(tactic| walk_at "st2") => `(tactic| first | walk_at "st" | ((try (conv => whnf)); with_reducible refine And.intro ?_ ?_; rotate_left))
local macro_rules | `(tactic| walk_at "go") => `(tactic| first | ((try (conv => whnf)); walk_at "br" <;> walk_at "go") | (walk_at "st"; walk_at "go") | (conv => whnf) | skip)
theorem ex_take {α : Type} : ∀ {t : Tr α} {as : List Bool} {l : Log} {a : α} {lg : Log}, t.ex (.told as) l = .ok a lg → t.ex (.told (as.take lg.length)) l = .ok a lg
  | .ret a, as, l, x, lg, h => h
  | .ask s i j c, as, l, x, lg, h => by
    rw [Tr.ex_ask] at h ⊢
    have e : (AK.told as).ans l.length i j = as[l.length]? := rfl
    cases hb : as[l.length]? with
    | none => rw [e, hb] at h; cases h
    | some b =>
      rw [e, hb] at h
      have h2 : (c b).ex (.told as) (l ++ [(i, j, b)]) = .ok x lg := h
      have hl := ex_longer (k := .told as) (t := c b) (l := l ++ [(i, j, b)])
      rw [h2] at hl
      have hl : l.length + 1 ≤ lg.length := by simpa using hl
      have e2 : (AK.told (as.take lg.length)).ans l.length i j = some b := by
        show (as.take lg.length)[l.length]? = some b
        rw [List.getElem?_take, if_pos (by omega), hb]
      rw [e2]
      exact ex_take h2
theorem not_many {as : List Bool} {lg : Log} (h : lg.length ≤ as.length) : ¬ lg.length < (as.take lg.length).length := by
  rw [List.length_take]
  omega
def foundP (res : Rs (List Nat × Option Nat)) : PyData := match res with
  | .ok a lg => .tuple [.list (a.1.map fun i => .int (i : Nat)), optP a.2, .none, .list ((lg.map pr).map fun q => .tuple [.int (q.1 : Nat), .int (q.2 : Nat)])]
  | .no st i j lg => .tuple [.list (st.map fun i => .int (i : Nat)), .none, .tuple [.int (i : Nat), .int (j : Nat)], .list ((lg.map pr).map fun q => .tuple [.int (q.1 : Nat), .int (q.2 : Nat)])]
theorem DpD.found {L : LL} {r s : Addr} (res : Rs (List Nat × Option Nat)) (h1 : HasL L r ((rsRow res).map dn)) (h2 : HasL L s (((rsLog res).map pr).map qD)) : DpD L 9 (foundD res r s) (foundP res) := by
  cases res with
  | ok a lg => exact .tup (.cons (.lst h1 (DpDs.nats _)) (.cons (DpD.opt _) (.cons .non (.cons (.lst h2 (DpDs.quests _)) .nil))))
  | no st i j lg => exact .tup (.cons (.lst h1 (DpDs.nats _)) (.cons .non (.cons (.tup (.cons .int (.cons .int .nil))) (.cons (.lst h2 (DpDs.quests _)) .nil))))
theorem call_told {cl : Cl} {L R F : LL} {Φ : DK} {Ψ : XC} {d : D} {as : List Bool} {w : Deed} (many : Nat) (hp : Pull L F R) (hd : seqB d as F) (h1 : w = .pop ∨ w = .replace → 0 < many) (h2 : many ≤ 2500) (h3 : as.length ≤ 100000) (h4 : (AK.told as).live cl) {res : Rs (List Nat × Option Nat)} (hr : (deedT w (List.range many)).ex (.told as) [] = res)
    (k : toldOut as (F ++ R) Φ Ψ res) : CtOfX (S_deed_told cl) [.str w.str, .int many, d] L Φ Ψ := by
  subst hr
  exact ⟨_, _, hp, w, many, d, as, rfl, hd, ⟨h1, h2, h3, h4⟩, k⟩
theorem rd_law_right88_s4 (cl : Cl) (R : LL) (Φ : DK) (p q r s : Addr) (w : Deed) (many : Nat) (as : List Bool) (wo : LO) (sd : D) (res : Rs (List Nat × Option Nat)) (h1 : w = .pop ∨ w = .replace → 0 < many) (h2 : many ≤ 2500) (h3 : as.length ≤ 100000) (h4 : (AK.told as).live cl)
    (hr : (deedT w (List.range many)).ex (.told as) [] = res) (hn : ¬ tooMany as res) (h : Φ (.bl true) ([(p, wo), tabF cl] ++ R)) :
    t__law_right88_s4 cl (endD Φ) [some (.ref p), some (.str w.str), some (.int many), some sd, some (.ref q), some (foundD res r s), none, none] ((p, wo) :: tabF cl :: (q, .lst (as.map .bl)) :: (foundF res r s ++ R)) := by
  have hl := leftOk w many (.told as) h1
  rw [hr] at hl
  have key : ∀ {L R' : LL} (r1 s1 : Addr), Pull L (foundF res r1 s1) R' → Cov R' ([(p, wo), tabF cl] ++ R) → CtOf (S_law_items_right cl) [.str w.str, .int many, foundD res r1 s1] L fun d L2 => Ret L2 (Φ d) := fun r1 s1 hp c =>
    ⟨_, _, hp, w, many, r1, s1, res, rfl, rfl, ⟨h2, h1, hl⟩, Ret.mk _ c h⟩
  rcases res with ⟨a, lg⟩ | ⟨st, i, j, lg⟩
  · walk_at "go"
    refine call_told (F := []) many .nil (.inr ⟨rfl, rfl⟩) h1 h2 h3 h4 hr (toldOut_all hn ?_)
    intro r1 s1
    walk_at "go"
    refine deepE.same _ (DpD.found (.ok a lg) (r := r1) (s := s1) (by walk_at "hasl") (by walk_at "hasl")) (DpD.found (.ok a lg) (r := r) (s := s) (by walk_at "hasl") (by walk_at "hasl")) ?_
    walk_at "go"
    refine call_told (F := [(q, .lst (as.map .bl))]) many (by walk_at "pull") (.inl ⟨q, rfl, rfl⟩) h1 h2 h3 h4 hr (toldOut_all hn ?_)
    intro r2 s2
    walk_at "go"
    refine deepE.same _ (DpD.found (.ok a lg) (r := r2) (s := s2) (by walk_at "hasl") (by walk_at "hasl")) (DpD.found (.ok a lg) (r := r) (s := s) (by walk_at "hasl") (by walk_at "hasl")) ?_
    walk_at "go"
    exact key r1 s1 (by walk_at "pull") (by walk_at "cov")
  · walk_at "go"
    refine call_told (F := []) many .nil (.inr ⟨rfl, rfl⟩) h1 h2 h3 h4 hr (toldOut_all hn ?_)
    intro r1 s1
    walk_at "go"
    refine deepE.same _ (DpD.found (.no st i j lg) (r := r1) (s := s1) (by walk_at "hasl") (by walk_at "hasl")) (DpD.found (.no st i j lg) (r := r) (s := s) (by walk_at "hasl") (by walk_at "hasl")) ?_
    walk_at "go"
    refine call_told (F := [(q, .lst (as.map .bl))]) many (by walk_at "pull") (.inl ⟨q, rfl, rfl⟩) h1 h2 h3 h4 hr (toldOut_all hn ?_)
    intro r2 s2
    walk_at "go"
    refine deepE.same _ (DpD.found (.no st i j lg) (r := r2) (s := s2) (by walk_at "hasl") (by walk_at "hasl")) (DpD.found (.no st i j lg) (r := r) (s := s) (by walk_at "hasl") (by walk_at "hasl")) ?_
    walk_at "go"
    exact key r1 s1 (by walk_at "pull") (by walk_at "cov")
theorem rd_law_right88 (cl : Cl) (ds : List D) (F R : LL) (Φ : DK) (h : S_law_right88 cl ds F R Φ) : t__law_right88 cl (endD Φ) (startD 8 ds) (F ++ R) := by
  obtain ⟨p, a, b, n, N, w, many, rfl, rfl, ⟨h1, h2, hw, hN, hl, hC⟩, h⟩ := h
  have hT2 := deedT_depth (w := w) (row := List.range many) (by simpa using h2) (by simp; omega)
  rw [List.length_range] at hT2
  walk_at "go"
  refine call_draw N (by walk_at "pull") (by decide) (divOk_of (by decide) (by decide)) hw (by omega) ?_
  intro sd a1 n1 _ _ hw1
  walk_at "go"
  refine call_draw (N + 1) (by walk_at "pull") (by omega) (divOk_of (by omega) (by omega)) hw1 (by omega) ?_
  intro ln a2 n2 ln1 ln2 hw2
  walk_at "go"
  rename_i ql
  refine LcI.inv (α := List Bool × Int × Int) (fun i x => (ql, .lst (x.1.map .bl)) :: (p, wellO x.2.1 b x.2.2) :: tabF cl :: R) (fun i x => x.1.length = i ∧ WellOk b x.2.2 (N + 2 + i)) ([], a2, n2) (by walk_at "cov") ⟨rfl, hw2.le (by simp; omega)⟩ ?_ ?_
  · rintro i ⟨xs, a3, n3⟩ d hd ⟨g1, g2⟩
    obtain ⟨hi, rfl⟩ := rgD_get hd
    dsimp only at g1 g2
    refine ⟨trivial, ?_⟩
    walk_at "go"
    · refine NxL.mk (xs ++ [true], a3, n3) ?_ ⟨by simp; omega, g2.le (by omega)⟩
      walk_at "cov"
      simp <;> omega
    · refine call_draw (N + 2 + i) (by walk_at "pull") (by decide) (divOk_of (by decide) (by decide)) g2 (by omega) ?_
      intro v a4 n4 _ _ hw4
      walk_at "go"
      refine NxL.mk (xs ++ [decide (v = 0)], a4, n4) ?_ ⟨by simp; omega, hw4.le (by omega)⟩
      walk_at "cov"
      simp <;> omega
    · refine NxL.mk (xs ++ [false], a3, n3) ?_ ⟨by simp; omega, g2.le (by omega)⟩
      walk_at "cov"
      simp <;> omega
  · rintro ⟨as, a3, n3⟩ ⟨g1, g2⟩
    rw [rgD_length] at g1 g2
    dsimp only at g1 g2
    have hw6 : WellOk b n3 (N + 8000) := g2.le (by omega)
    have hz : as.length ≤ 100000 := by omega
    refine ⟨trivial, ?_⟩
    dsimp only
    walk_at "go"
    refine call_deed w many (by walk_at "pull") rfl h2 (by omega) (by omega) ?_
    generalize hr : (deedT w (List.range many)).ex (.told as) [] = res
    refine deedOut_all ?_
    intro r s
    rcases res with ⟨x, lg⟩ | ⟨st, i, j, lg⟩
    · walk_at "go"
      · rename_i z
        have z : lg.length < as.length := by simpa [rsLog] using z
        refine ⟨⟨0, TabG cl at88, by walk_at "has", fun H h => h⟩, fun f g PP => ?_⟩
        walk_at "go"
        refine ⟨⟨_, by walk_at "has"⟩, fun g2 P2 => ?_⟩
        walk_at "go"
        refine call_told (F := [(ql, .lst (as.map .bl))]) many (by walk_at "pull") (.inl ⟨ql, rfl, rfl⟩) h2 h1 hz (hl _) hr (toldOut_many z fun p9 => ?_)
        refine RaiseTo.mk _ (by walk_at "cov") ?_
        refine tw__law_word cl _ _ _ p9 _ hC (RaiseTo.mk _ (by walk_at "cov") ⟨_, by walk_at "has", Ret.mk _ .refl ?_⟩)
        walk_at "go"
        rw [List.length_map, List.length_map]
        refine deepE.same (.tuple [.str "answers", .int lg.length]) (.tup (.cons (.str (by decide +kernel)) (.cons .int .nil))) (.tup (.cons (.str (by decide +kernel)) (.cons .int .nil))) ?_
        walk_at "go"
        rename_i q3
        rw [List.length_map, List.length_map, show cutD (as.map D.bl) none (some ((rsLog (Rs.ok x lg)).length : Int)) = (as.take lg.length).map D.bl by rw [List.map_take]; exact cutD_toAny lg.length rfl]
        refine Wk.mk _ _ (by walk_at "sub") (by walk_at "cov") (rd_law_right88_s4 cl R Φ p q3 r s w many (as.take lg.length) (wellO a3 b n3) (.int sd) (.ok x lg) h2 h1 (by rw [List.length_take]; omega) (hl _) (ex_take hr) (not_many (by omega)) (h a3 n3 hw6))
      · rename_i z
        have z : ¬ lg.length < as.length := by simpa [rsLog] using z
        refine Wk.mk _ _ (by walk_at "sub") (by walk_at "cov") (rd_law_right88_s4 cl R Φ p ql r s w many as (wellO a3 b n3) (.int sd) (.ok x lg) h2 h1 hz (hl _) hr z (h a3 n3 hw6))
    · walk_at "go"
      refine Wk.mk _ _ (by walk_at "sub") (by walk_at "cov") (rd_law_right88_s4 cl R Φ p ql r s w many as (wellO a3 b n3) (.int sd) (.no st i j lg) h2 h1 hz (hl _) hr (fun z => z) (h a3 n3 hw6))
end DL

namespace DL
open PySem PySem.Spec PyProof.Rows L2
local macro_rules | `(tactic| walk_at "has") => `(tactic| first | exact Has.here | (apply Has.there; walk_at "has"))
local macro_rules | `(tactic| walk_at "hasl") => `(tactic| first | (refine Or.inl ?_; walk_at "has") | (refine Or.inr ?_; walk_at "has"))
local macro_rules | `(tactic| walk_at "sel") => `(tactic| first | exact Sel.here | (apply Sel.there; walk_at "sel"))
local macro_rules | `(tactic| walk_at "chg") => `(tactic| first | exact Chg.here | (apply Chg.there; walk_at "chg"))
local macro_rules | `(tactic| walk_at "pull") => `(tactic| first | exact Pull.nil | (apply Pull.cons; (walk_at "sel"); exact rfl; walk_at "pull"))
local macro_rules | `(tactic| walk_at "cov") => `(tactic| first | exact Cov.refl | (apply Cov.take; (walk_at "sel"); (first | exact rfl | assumption); walk_at "cov") | (apply Cov.take; (walk_at "sel"); rotate_left; walk_at "cov") | (refine Cov.drop ?_; walk_at "cov"))
local macro_rules | `(tactic| walk_at "sub") => `(tactic| first | exact Sub.nil | (refine Sub.same (by first | rfl | assumption) ?_; walk_at "sub") | (refine Sub.any ?_; walk_at "sub") | (refine Sub.same ?_ ?_; rotate_left; walk_at "sub"))
local macro_rules | `(tactic| walk_at "side") => `(tactic| first | assumption | (with_reducible rfl) | omega | (refine mulOk_r ?_ ?_ <;> first | omega | decide) | (refine mulOk_l ?_ ?_ <;> first | omega | decide) | (refine divOk_of ?_ ?_ <;> first | omega | decide) | (refine ⟨?_, ?_⟩ <;> walk_at "side") | rfl | (simp <;> omega) | decide)
local macro_rules | `(tactic| walk_at "kn") => `(tactic| first | assumption | decide | rfl)
local macro_rules | `(tactic| walk_at "br") => `(tactic| first | (with_reducible first | refine Br.t ?_ | refine Br.f ?_) | ((with_reducible refine Br.dec_t ?_ ?_); focus walk_at "kn") | ((with_reducible refine Br.dec_f ?_ ?_); focus walk_at "kn") | ((with_reducible refine Br.ndec_t ?_ ?_); focus walk_at "kn") | ((with_reducible refine Br.ndec_f ?_ ?_); focus walk_at "kn") | (with_reducible first | (refine Br.dec ?_ ?_ <;> intro _) | (refine Br.ndec ?_ ?_ <;> intro _)) | refine Br.t ?_ | refine Br.f ?_ | (with_reducible refine Br.mk ?_ ?_ <;> intro _))
local macro_rules | `(tactic| walk_at "st") => `(tactic| ((try (conv => whnf)); first
  | walk_at "br"
  | with_reducible (intro _)
  | (refine ⟨_, (by walk_at "has" : Has _ _ _), ?_⟩)
  | (refine ⟨_, (by walk_at "hasl" : HasL _ _ _), ?_⟩)
  | (refine ⟨_, _, (by walk_at "chg" : Chg _ _ _ _ _), ?_⟩)
  | (refine ⟨_, _, _, (by walk_at "chg" : Chg _ _ _ _ _), (by first | rfl | assumption : ixN _ _ = some _), ?_⟩)
  | (refine ⟨_, _, (by walk_at "sel" : Sel _ _ _ _), ?_⟩)
  | (refine ⟨_, _, _, (by walk_at "has" : Has _ _ _), (by assumption), ?_⟩)
  | (refine ⟨_, (by first | rfl | assumption : atI _ _ = some _), ?_⟩)
  | (refine And.intro (by walk_at "side") ?_)))
local macro_rules | `(tactic| walk_at "st2") => `(tactic| first | walk_at "st" | ((try (conv => whnf)); with_reducible refine And.intro ?_ ?_; rotate_left))
local macro_rules | `(tactic| walk_at "go") => `(tactic| first | ((try (conv => whnf)); walk_at "br" <;> walk_at "go") | (walk_at "st"; walk_at "go") | (conv => whnf) | skip)
theorem allM_take {w : Deed} {ms : List Int} {many : Nat} (h : ms.length = many + w.more) : allM w (ms.take many) (ms.getD many 0) = ms := by
  unfold allM
  rcases more_or w with hm | hm
  · rw [if_neg (by omega), List.take_of_length_le (by omega)]
  · rw [if_pos hm]
    have hlt : many < ms.length := by omega
    have e : ms.getD many 0 = ms[many] := by simp [List.getD, List.getElem?_eq_getElem hlt]
    rw [e, ← List.take_succ_eq_append_getElem hlt, List.take_of_length_le (by omega)]
theorem rd_law_honest_right_s4 (cl : Cl) (R : LL) (Φ : DK) (p ql qa r s : Addr) (w : Deed) (many : Nat) (ms : List Int) (wo : LO) (g : D) (h1 : ms.length = many + w.more) (h2 : w = .pop ∨ w = .replace → 0 < many) (h3 : many ≤ 2000) (h4 : ∀ as, (AK.told as).live cl)
    (h : Φ (.bl true) ([(p, wo)] ++ R)) :
    t__law_honest_right_s4 cl (endD Φ) [some (.ref p), some (.str w.str), some (.int many), some (.ref ql), some (.ref qa), some (keyD w (ms.getD many 0)), some (.ref r), some (optD ((deedT w (List.range many)).fin ms).2), some (.ref s), none, none, none]
      ((p, wo) :: (ql, intsO ms) :: (qa, .lst ((((deedT w (List.range many)).truth ms).map fun e => e.2.2).map .bl)) :: (r, rowO ((deedT w (List.range many)).fin ms).1) :: (s, .lst ((((deedT w (List.range many)).truth ms).map pr).map qD)) :: R) := by
  have hT2 := deedT_depth (w := w) (row := List.range many) (by simpa using h2) (by simp; omega)
  rw [List.length_range] at hT2
  have hT := Tr.truth_depth ms (deedT w (List.range many))
  have hx : (deedT w (List.range many)).ex (.told (((deedT w (List.range many)).truth ms).map fun e => e.2.2)) [] = .ok ((deedT w (List.range many)).fin ms) ((deedT w (List.range many)).truth ms) := by
    have := ex_first ms (deedT w (List.range many)) _ (Nat.le_refl _)
    rw [List.take_length] at this
    rcases this with ⟨_, e⟩ | ⟨q, st, e, _⟩
    · exact e
    · rw [List.getElem?_eq_none (Nat.le_refl _)] at e
      cases e
  have ea := allM_take (w := w) (ms := ms) (many := many) h1
  have el : (ms.take many).length = many := by rw [List.length_take]; omega
  generalize hfin : (deedT w (List.range many)).fin ms = fin at *
  generalize htr : (deedT w (List.range many)).truth ms = tr at *
  walk_at "go"
  refine call_told (F := [(qa, .lst ((tr.map fun e => e.2.2).map .bl))]) many (by walk_at "pull") (.inl ⟨qa, rfl, rfl⟩) h2 (by omega) (by rw [List.length_map]; omega) (h4 _) hx (toldOut_all (by show ¬ tr.length < (tr.map fun e => e.2.2).length; rw [List.length_map]; omega) ?_)
  intro r1 s1
  walk_at "go"
  refine deepE.same _ (DpD.found (.ok fin tr) (r := r1) (s := s1) (by walk_at "hasl") (by walk_at "hasl")) (DpD.found (.ok fin tr) (r := r) (s := s) (by walk_at "hasl") (by walk_at "hasl")) ?_
  walk_at "go"
  rename_i q2
  rw [cutD_to many rfl (by rw [List.length_map]; omega), ← List.map_take]
  refine call_done (F := [(q2, intsO (ms.take many))]) (by walk_at "pull") (.inl ⟨q2, rfl, rfl⟩) (by rw [el]; exact h2) (by omega) ?_
  rw [ea, el, hfin, htr]
  intro r3 s3
  walk_at "go"
  refine deepE.same _ (.lst (by walk_at "hasl") (DpDs.quests _)) (.lst (by walk_at "hasl") (DpDs.quests _)) ?_
  walk_at "go"
  refine Ret.mk _ ?_ h
  walk_at "cov"
theorem rd_law_honest_right (cl : Cl) (ds : List D) (F R : LL) (Φ : DK) (h : S_law_honest_right cl ds F R Φ) : t__law_honest_right cl (endD Φ) (startD 12 ds) (F ++ R) := by
  obtain ⟨p, a, b, n, N, w, many, rfl, rfl, ⟨h1, h2, hw, hN, hl⟩, h⟩ := h
  have hin : inD (.str w.str) [.str "push", .str "replace", .str "pushpop"] = decide (w.more = 1) := by cases w <;> decide +kernel
  have e : (many : Int) + (if decide (w.more = 1) = true then 1 else 0) = ((many + w.more : Nat) : Int) := by cases w <;> simp [Deed.more]
  have hm1 : w.more ≤ 1 := by cases w <;> decide
  walk_at "go"
  rename_i ql
  rw [hin, e]
  walk_at "go"
  refine LcI.inv (α := List Int × Int × Int) (fun i x => (ql, intsO x.1) :: (p, wellO x.2.1 b x.2.2) :: R) (fun i x => x.1.length = i ∧ WellOk b x.2.2 (N + i)) ([], a, n) (by walk_at "cov") ⟨rfl, hw.le (by simp)⟩ ?_ ?_
  · rintro i ⟨xs, a3, n3⟩ d hd ⟨g1, g2⟩
    obtain ⟨hi, rfl⟩ := rgD_get hd
    dsimp only at g1 g2
    refine ⟨trivial, ?_⟩
    walk_at "go"
    refine call_draw (N + i) (by walk_at "pull") (by decide) (divOk_of (by decide) (by decide)) g2 (by omega) ?_
    intro v a4 n4 _ _ hw4
    walk_at "go"
    refine NxL.mk (xs ++ [v], a4, n4) ?_ ⟨by simp; omega, hw4.le (by omega)⟩
    walk_at "cov"
    simp
  · rintro ⟨ms, a3, n3⟩ ⟨g1, g2⟩
    rw [rgD_length] at g1 g2
    dsimp only at g1 g2
    have g1 : ms.length = many + w.more := by omega
    have hw6 : WellOk b n3 (N + 8000) := g2.le (by omega)
    refine ⟨trivial, ?_⟩
    dsimp only
    walk_at "go"
    refine CtOf.mk [(ql, intsO ms)] _ (by walk_at "pull") ⟨w, ql, many, ms, rfl, rfl, ⟨g1, h2, by omega⟩, ?_⟩
    intro r s
    walk_at "go"
    rename_i qa
    have hok := deedT_ok (deedOk_range (x := []) g1 h2 (by omega))
    have htr := hok.truth
    have hT2 := deedT_depth (w := w) (row := List.range many) (by simpa using h2) (by simp; omega)
    rw [List.length_range] at hT2
    have hT := Tr.truth_depth ms (deedT w (List.range many))
    refine LcI.pure (xs := (deedT w (List.range many)).truth ms) (toD := fun e => qD (pr e)) (out := fun e => .bl e.2.2) (by rw [List.map_map]; rfl) (fun _ => by walk_at "hasl") (by omega) ?_ ?_
    · intro q hq acc Ψ hk
      have hq := htr q hq
      walk_at "go"
      refine ⟨_, atI_int q.1 rfl hq.1, ?_⟩
      walk_at "go"
      refine ⟨_, atI_int q.2.1 rfl hq.2.1, ?_⟩
      walk_at "go"
      have e2 : decide (ms.getD q.1 0 < ms.getD q.2.1 0) = q.2.2 := by rw [hq.2.2]; rfl
      have := hk _ .refl
      rw [← e2] at this
      exact this
    · have fin := rd_law_honest_right_s4 cl R Φ p ql qa r s w many ms (wellO a3 b n3) .non g1 h2 (by omega) hl (h a3 n3 hw6)
      rw [List.map_map] at fin
      rcases more_or w with hm | hm
      · have hlt : ¬ (many : Int) < ((ms.map D.int).length : Int) := by rw [List.length_map]; omega
        rw [show keyD w (ms.getD many 0) = .non by unfold keyD; rw [if_neg (by omega)]] at fin
        walk_at "go"
        refine Wk.mk _ _ (by walk_at "sub") (by walk_at "cov") fin
      · have hlt : (many : Int) < ((ms.map D.int).length : Int) := by rw [List.length_map]; omega
        rw [show keyD w (ms.getD many 0) = .int (ms.getD many 0) by unfold keyD; rw [if_pos hm]] at fin
        walk_at "go"
        refine ⟨.int (ms.getD many 0), atI_lastD ?_, ?_⟩
        · rw [List.getElem?_map, List.length_map, show ms.length - 1 = many by omega]
          simp [List.getD, List.getElem?_eq_getElem (show many < ms.length by omega)]
        walk_at "go"
        refine Wk.mk _ _ (by walk_at "sub") (by walk_at "cov") fin
end DL

namespace DL
open PySem PySem.Spec PyProof.Rows L2
local macro_rules | `(tactic| walk_at "has") => `(tactic| first | exact Has.here | (apply Has.there; walk_at "has"))
local macro_rules | `(tactic| walk_at "hasl") => `(tactic| first | (refine Or.inl ?_; walk_at "has") | (refine Or.inr ?_; walk_at "has"))
local macro_rules | `(tactic| walk_at "sel") => `(tactic| first | exact Sel.here | (apply Sel.there; walk_at "sel"))
local macro_rules | `(tactic| walk_at "chg") => `(tactic| first | exact Chg.here | (apply Chg.there; walk_at "chg"))
local macro_rules | `(tactic| walk_at "pull") => `(tactic| first | exact Pull.nil | (apply Pull.cons; (walk_at "sel"); exact rfl; walk_at "pull"))
local macro_rules | `(tactic| walk_at "cov") => `(tactic| first | exact Cov.refl | (apply Cov.take; (walk_at "sel"); (first | exact rfl | assumption); walk_at "cov") | (apply Cov.take; (walk_at "sel"); rotate_left; walk_at "cov") | (refine Cov.drop ?_; walk_at "cov"))
local macro_rules | `(tactic| walk_at "sub") => `(tactic| first | exact Sub.nil | (refine Sub.same (by first | rfl | assumption) ?_; walk_at "sub") | (refine Sub.any ?_; walk_at "sub") | (refine Sub.same ?_ ?_; rotate_left; walk_at "sub"))
local macro_rules | `(tactic| walk_at "side") => `(tactic| first | assumption | (with_reducible rfl) | omega | (refine mulOk_r ?_ ?_ <;> first | omega | decide) | (refine mulOk_l ?_ ?_ <;> first | omega | decide) | (refine divOk_of ?_ ?_ <;> first | omega | decide) | (refine ⟨?_, ?_⟩ <;> walk_at "side") | rfl | (simp <;> omega) | decide)
local macro_rules | `(tactic| walk_at "kn") => `(tactic| first | assumption | decide | rfl)
local macro_rules | `(tactic| walk_at "br") => `(tactic| first | (with_reducible first | refine Br.t ?_ | refine Br.f ?_) | ((with_reducible refine Br.dec_t ?_ ?_); focus walk_at "kn") | ((with_reducible refine Br.dec_f ?_ ?_); focus walk_at "kn") | ((with_reducible refine Br.ndec_t ?_ ?_); focus walk_at "kn") | ((with_reducible refine Br.ndec_f ?_ ?_); focus walk_at "kn") | (with_reducible first | (refine Br.dec ?_ ?_ <;> intro _) | (refine Br.ndec ?_ ?_ <;> intro _)) | refine Br.t ?_ | refine Br.f ?_ | (with_reducible refine Br.mk ?_ ?_ <;> intro _))
local macro_rules | `(tactic| walk_at "st") => `(tactic| ((try (conv => whnf)); first
  | walk_at "br"
  | with_reducible (intro _)
  | (refine ⟨_, (by walk_at "has" : Has _ _ _), ?_⟩)
  | (refine ⟨_, (by walk_at "hasl" : HasL _ _ _), ?_⟩)
  | (refine ⟨_, _, (by walk_at "chg" : Chg _ _ _ _ _), ?_⟩)
  | (refine ⟨_, _, _, (by walk_at "chg" : Chg _ _ _ _ _), (by first | rfl | assumption : ixN _ _ = some _), ?_⟩)
  | (refine ⟨_, _, (by walk_at "sel" : Sel _ _ _ _), ?_⟩)
  | (refine ⟨_, _, _, (by walk_at "has" : Has _ _ _), (by assumption), ?_⟩)
  | (refine ⟨_, (by first | rfl | assumption : atI _ _ = some _), ?_⟩)
  | (refine And.intro (by walk_at "side") ?_)))
local macro_rules | `(tactic| walk_at "st2") => `(tactic| first | walk_at "st" | ((try (conv => whnf)); with_reducible refine And.intro ?_ ?_; rotate_left))
local macro_rules | `(tactic| walk_at "go") => `(tactic| first | ((try (conv => whnf)); walk_at "br" <;> walk_at "go") | (walk_at "st"; walk_at "go") | (conv => whnf) | skip)
def t_law88_s0_2 (cl : Cl) : TS' :=
  tFor' (iSeq' (tCall0' (C__law_words cl) [])) (gName' 4) (tSeq' (tAsg' (tCall' (C__law_pick cl) [] (tCons' (tVar' 3) (tCons' (tLst' (tCons' (tC' (.int 0)) (tCons' (tC' (.int 1)) (tCons' (tC' (.int 2)) (tCons' (tC' (.int 3)) (tCons' (tC' (.int 5)) (tCons' (tC' (.int 8)) (tCons' (tC' (.int 15)) (tCons' (tCall' (C__law_draw cl) [] (tCons' (tVar' 3) (tCons' (tC' (.int 21)) (tNil')))) (tNil')))))))))) (tNil')))) (gName' 5))
  (tSeq' (tIfS' (tTst' (tBin' fIn (tVar' 4) (tTup' (tCons' (tC' (.str "pop")) (tCons' (tC' (.str "replace")) (tNil')))))) (tAsg' (tCB' fMax2 (tCons' (tC' (.int 1)) (tCons' (tVar' 5) (tNil')))) (gName' 5)) (tNext'))
  (tIfS' (tOr' (tNot' (tTru' (tCall' (C__law_right88 cl) [] (tCons' (tVar' 3) (tCons' (tVar' 4) (tCons' (tVar' 5) (tNil'))))))) (tNot' (tTru' (tCall' (C__law_honest_right cl) [] (tCons' (tVar' 3) (tCons' (tVar' 4) (tCons' (tVar' 5) (tNil')))))))) (tRet' (tC' (.bl false))) (tNext'))))
def t_law88 (cl : Cl) : TS' :=
  tSeq' (tFor' (iEnumA' (tCons' (tBin' fAdd (tSl' (tVar' 0) (tNoPart') (tPart' (tC' (.int 10)))) (tLst' (tCons' (tC' (.int 0)) (tCons' (tC' (.int 1)) (tNil'))))) (tNil'))) (gTup' 2 (gCons' (gName' 1) (gCons' (gName' 2) (gNil')))) (tSeq' (tAsg' (tCall' (C__law_well cl) [] (tCons' (tVar' 2) (tNil'))) (gName' 3))
  (tSeq' (tIfS' (tTst' (tBin' fLt (tVar' 1) (tC' (.int 2)))) (tSeq' (tAsg' (tBin' fIx (tCall0' (C__law_words cl) []) (tBin' fMul (tVar' 1) (tBin' fAdd (tC' (.int 1)) (tCall' (C__law_draw cl) [] (tCons' (tVar' 3) (tCons' (tC' (.int 4)) (tNil'))))))) (gName' 4))
  (tIfS' (tNot' (tTru' (tCall' (C__law_right88 cl) [] (tCons' (tVar' 3) (tCons' (tVar' 4) (tCons' (tBin' fAdd (tC' (.int 131)) (tCall' (C__law_draw cl) [] (tCons' (tVar' 3) (tCons' (tC' (.int 2370)) (tNil'))))) (tNil'))))))) (tRet' (tC' (.bl false))) (tNext'))) (tNext'))
  (tWk' (t_law88_s0_2 cl)))))
  (tRet' (tC' (.bl true)))
-- script at cell well word many
theorem law88_words {j : Nat} {d : D} (hd : wordsD[j]? = some d) : ∃ w : Deed, d = .str w.str := by
  match j, hd with
  | 0, hd => exact ⟨.heapify, (Option.some.inj hd).symm⟩
  | 1, hd => exact ⟨.push, (Option.some.inj hd).symm⟩
  | 2, hd => exact ⟨.pop, (Option.some.inj hd).symm⟩
  | 3, hd => exact ⟨.replace, (Option.some.inj hd).symm⟩
  | 4, hd => exact ⟨.pushpop, (Option.some.inj hd).symm⟩
  | j + 5, hd => cases hd
theorem call_right88 {cl : Cl} {L R : LL} {Φ : DK} {p : Addr} {a b n : Int} {z : Int} (N : Int) (w : Deed) (many : Nat) (hp : Pull L [(p, wellO a b n), tabF cl] R) (e : z = many) (h1 : many ≤ 2500) (h2 : w = .pop ∨ w = .replace → 0 < many) (hw : WellOk b n N) (hN : N ≤ 900000000) (hl : ∀ as, (AK.told as).live cl) (hC : XT.answers ∈ cl.xts)
    (k : ∀ (a' n' : Int), WellOk b n' (N + 8000) → Φ (.bl true) ([(p, wellO a' b n'), tabF cl] ++ R)) : CtOf (S_law_right88 cl) [.ref p, .str w.str, .int z] L Φ := by
  subst e
  exact ⟨_, _, hp, p, a, b, n, N, w, many, rfl, rfl, ⟨h1, h2, hw, hN, hl, hC⟩, k⟩
theorem call_honest88 {cl : Cl} {L R : LL} {Φ : DK} {p : Addr} {a b n : Int} {z : Int} (N : Int) (w : Deed) (many : Nat) (hp : Pull L [(p, wellO a b n)] R) (e : z = many) (h1 : many ≤ 2000) (h2 : w = .pop ∨ w = .replace → 0 < many) (hw : WellOk b n N) (hN : N ≤ 900000000) (hl : ∀ as, (AK.told as).live cl)
    (k : ∀ (a' n' : Int), WellOk b n' (N + 8000) → Φ (.bl true) ([(p, wellO a' b n')] ++ R)) : CtOf (S_law_honest_right cl) [.ref p, .str w.str, .int z] L Φ := by
  subst e
  exact ⟨_, _, hp, p, a, b, n, N, w, many, rfl, rfl, ⟨h1, h2, hw, hN, hl⟩, k⟩
theorem rd_law88_s0_2 (cl : Cl) (De : EndsD) (R : LL) (p : Addr) (a b n : Int) (x y : DL.D) (sd w4 w5 : Option D) (hw : WellOk b n 9000) (hl : ∀ as, (AK.told as).live cl) (hC : XT.answers ∈ cl.xts)
    (hn : ∀ a n pw, De.nx [none, some x, some y, some (.ref p), none, none] ((p, wellO a b n) :: (pw, .lst wordsD) :: tabF cl :: R)) :
    t_law88_s0_2 cl De [none, some x, some y, some (.ref p), w4, w5] ((p, wellO a b n) :: tabF cl :: R) := by
  walk_at "go"
  refine CtOf.mk [] _ .nil ⟨rfl, rfl, ?_⟩
  intro pw
  walk_at "go"
  refine ForI.inv (α := Int × Int) (fun j z => [none, some x, some y, some (.ref p), none, none]) (fun j z => (p, wellO z.1 b z.2) :: (pw, .lst wordsD) :: tabF cl :: R) (fun j z => WellOk b z.2 (9000 + 20000 * j)) (a, n) (by walk_at "sub") (by walk_at "cov") (hw.le (by simp)) ?_ ?_
  · rintro j ⟨a1, n1⟩ d hd hw1
    have hj : j < 5 := (List.getElem?_eq_some_iff.mp hd).1
    obtain ⟨w, rfl⟩ := law88_words hd
    have hin : inD (.str w.str) [.str "pop", .str "replace"] = decide (w = .pop ∨ w = .replace) := by cases w <;> decide +kernel
    refine ⟨by walk_at "hasl", ?_⟩
    dsimp only at hw1 ⊢
    walk_at "go"
    refine call_draw (9000 + 20000 * j) (by walk_at "pull") (by decide) (divOk_of (by decide) (by decide)) hw1 (by omega) ?_
    intro v a2 n2 hv1 hv2 hw2
    walk_at "go"
    rename_i q8
    refine call_pick (9000 + 20000 * j + 1) [.int 0, .int 1, .int 2, .int 3, .int 5, .int 8, .int 15, .int v] (by walk_at "pull") (by simp) (by simp) hw2 (by omega) ?_
    intro k x9 a3 n3 hk hw3
    have hx' : ∃ m : Nat, x9 = .int m ∧ m < 50 := by
      match k, hk with
      | 0, hx => exact ⟨0, (Option.some.inj hx).symm, by omega⟩
      | 1, hx => exact ⟨1, (Option.some.inj hx).symm, by omega⟩
      | 2, hx => exact ⟨2, (Option.some.inj hx).symm, by omega⟩
      | 3, hx => exact ⟨3, (Option.some.inj hx).symm, by omega⟩
      | 4, hx => exact ⟨5, (Option.some.inj hx).symm, by omega⟩
      | 5, hx => exact ⟨8, (Option.some.inj hx).symm, by omega⟩
      | 6, hx => exact ⟨15, (Option.some.inj hx).symm, by omega⟩
      | 7, hx =>
        refine ⟨v.toNat, ?_, by omega⟩
        rw [← Option.some.inj hx]
        congr 1
        omega
      | k + 8, hx => cases hx
    obtain ⟨m, rfl, hm⟩ := hx'
    walk_at "go"
    · rename_i z
      refine call_right88 (9000 + 20000 * j + 2) w (max 1 m) (by walk_at "pull") (by omega) (by omega) (fun _ => by omega) (hw3.le (by omega)) (by omega) hl hC ?_
      intro a4 n4 hw4
      walk_at "go"
      refine call_honest88 (9000 + 20000 * j + 2 + 8000) w (max 1 m) (by walk_at "pull") (by omega) (by omega) (fun _ => by omega) hw4 (by omega) hl ?_
      intro a5 n5 hw5
      walk_at "go"
      refine Nx1.mk (a5, n5) (by walk_at "sub") (by walk_at "cov") (hw5.le (by omega))
    · rename_i z
      rw [hin] at z
      have z := of_decide_eq_false z
      refine call_right88 (9000 + 20000 * j + 2) w m (by walk_at "pull") rfl (by omega) (fun e => absurd e z) (hw3.le (by omega)) (by omega) hl hC ?_
      intro a4 n4 hw4
      walk_at "go"
      refine call_honest88 (9000 + 20000 * j + 2 + 8000) w m (by walk_at "pull") rfl (by omega) (fun e => absurd e z) hw4 (by omega) hl ?_
      intro a5 n5 hw5
      walk_at "go"
      refine Nx1.mk (a5, n5) (by walk_at "sub") (by walk_at "cov") (hw5.le (by omega))
  · rintro ⟨a1, n1⟩ hw1
    refine ⟨by walk_at "hasl", ?_⟩
    exact hn a1 n1 pw
theorem rd_law88 (cl : Cl) (ds : List D) (F R : LL) (Φ : DK) (h : S_law88 cl ds F R Φ) : t_law88 cl (endD Φ) (startD 6 ds) (F ++ R) := by
  obtain ⟨a, ns, rfl, hF, ⟨hz, hl, hC⟩, h⟩ := h
  obtain ⟨xs, hx⟩ : ∃ xs : List Int, cutD (ns.map D.int) none (some 10) ++ [D.int 0, D.int 1] = xs.map D.int := by
    refine ⟨ns.take 10 ++ [0, 1], ?_⟩
    rw [List.map_append, List.map_take]
    congr 1
    exact cutD_toAny 10 rfl
  have hcl : (cutD (ns.map D.int) none (some 10)).length ≤ 63 := Nat.le_trans cutD_len (by simpa using hz)
  have hxs : xs.length ≤ 65 := by
    have := congrArg List.length hx
    simp at this
    omega
  have hxl : ((xs.map D.int).length : Int) ≤ 65 := by simp; omega
  rcases hF with rfl | rfl
  all_goals
    walk_at "go"
    rename_i p5 p6 p7
    rw [hx]
    refine ForI.inv (α := Unit) (fun i x => [none, none, none, none, none, none]) (fun i x => (p7, intsO xs) :: tabF cl :: R) (fun i x => True) () (by walk_at "sub") (by walk_at "cov") trivial ?_ ?_
    · rintro i _ d hd _
      obtain ⟨e, he, rfl⟩ := enumD_get hd
      rw [List.getElem?_map] at he
      obtain ⟨c, hc, rfl⟩ := Option.map_eq_some_iff.mp he
      refine ⟨by walk_at "hasl", ?_⟩
      walk_at "go"
      refine CtOf.mk [] _ .nil ⟨c, rfl, rfl, ?_⟩
      intro p wa wb hb1 hb2
      walk_at "go"
      · rename_i hi
        refine CtOf.mk [] _ .nil ⟨rfl, rfl, ?_⟩
        intro pw
        walk_at "go"
        refine call_draw 0 (by walk_at "pull") (by decide) (divOk_of (by decide) (by decide)) ⟨hb1, hb2, Int.le_refl _, by simp⟩ (by omega) ?_
        intro v a2 n2 hv1 hv2 hw2
        walk_at "go"
        have hix : ∃ (k : Nat) (w : Deed), (i : Int) * (1 + v) = k ∧ wordsD[k]? = some (.str w.str) := by
          have h5 : ((i : Int) * (1 + v)).toNat < 5 ∧ 0 ≤ (i : Int) * (1 + v) := by
            have : i = 0 ∨ i = 1 := by omega
            rcases this with rfl | rfl
            · simp
            · simp; omega
          have e : wordsD[((i : Int) * (1 + v)).toNat]? = some (wordsD[((i : Int) * (1 + v)).toNat]'h5.1) := List.getElem?_eq_getElem h5.1
          obtain ⟨w, hw⟩ := law88_words e
          exact ⟨((i : Int) * (1 + v)).toNat, w, by omega, by rw [e, hw]⟩
        obtain ⟨k, w, ek, hk⟩ := hix
        refine ⟨_, atI_of k ek hk, ?_⟩
        walk_at "go"
        refine call_draw 1 (by walk_at "pull") (by decide) (divOk_of (by decide) (by decide)) hw2 (by omega) ?_
        intro v2 a3 n3 hv3 hv4 hw3
        walk_at "go"
        refine call_right88 2 w (131 + v2).toNat (by walk_at "pull") (by omega) (by omega) (fun _ => by omega) hw3 (by omega) hl hC ?_
        intro a4 n4 hw4
        walk_at "go"
        refine Wk.mk _ _ (by walk_at "sub") (by walk_at "cov") (rd_law88_s0_2 cl _ ((p7, intsO xs) :: R) p a4 wb n4 (.int i) (.int c) none (some (.str w.str)) none (hw4.le (by omega)) hl hC fun a n pw => Nx1.mk () (by walk_at "sub") (by walk_at "cov") trivial)
      · refine Wk.mk _ _ (by walk_at "sub") (by walk_at "cov") (rd_law88_s0_2 cl _ ((p7, intsO xs) :: R) p wa wb 0 (.int i) (.int c) none none none ⟨hb1, hb2, Int.le_refl _, by simp⟩ hl hC fun a n pw => Nx1.mk () (by walk_at "sub") (by walk_at "cov") trivial)
    · intro _ _
      refine ⟨by walk_at "hasl", ?_⟩
      walk_at "go"
      exact Ret.mk _ (by walk_at "cov") h
theorem no_Told (cl : Cl) : NonOnly (C_Told___init__ cl) := nonly_of fun ds F R Φ ⟨h, d, as, Fq, e1, e2, hs, k⟩ => ⟨h, d, as, Fq, e1, e2, hs, fun mk la => ⟨rfl, k mk la⟩⟩
end DL

/-! a law's start with tables of code -/
namespace DL
open PySem PySem.Spec PyProof.Rows L2 LamX
/-- these tables stand -/
def TabGs (cl : Cl) (ats : List (Str × Option Str)) : Hp → Prop := fun H => ∀ at_ ∈ ats, TabG cl at_ H
theorem tabG_start {cl : Cl} {at_ : Str × Option Str} {H : Hp} (h : H (cl.tb at_) = some (.tbl #[])) : TabG cl at_ H := ⟨#[], h, (by simp [TriplesOk]), fun pos cv e => by
  simp [PySem.codeAmong] at e⟩
theorem law_startT {K : PySem.W.Frag} {H : Hp} {S : Sc} {a g : Addr} {ns : List Int} {E : XK} {PP : Hp → Prop} (hP : PP H) (st : ∀ H1 H2, PP H1 → TK K H1 H2 → PP H2) (hS : SqL K H a (ns.map V.int))
    (h : ∀ o, (o = .ro (ns.map .int) ∨ o = .lst (ns.map .int)) → S [.ref a] [(a, o), (g, .gh PP)] [] fun d _ => d = .bl true) :
    liftC K (CtOf S) [.ref a] H (fun v _ => v = .bl true) E := by
  have key : ∀ o, (o = .ro (ns.map .int) ∨ o = .lst (ns.map .int)) → OKo K H a o → liftC K (CtOf S) [.ref a] H (fun v _ => v = .bl true) E := fun o ho ok => by
    refine ⟨[.ref a], [(a, o), (g, .gh PP)], fun d _ => d = .bl true, .cons .ref .nil, ⟨fun p hp => ?_, ?_⟩, ⟨_, _, .cons .here rfl (.cons .here rfl .nil), h o ho⟩, fun d L v H' e _ r _ => ?_⟩
    · rcases List.mem_cons.mp hp with e | hp
      · subst e; exact ok
      · rcases List.mem_cons.mp hp with e | hp
        · subst e; exact ⟨hP, st⟩
        · cases hp
    · simp [List.pairwise_cons, isRw]
    · subst e
      cases r
      rfl
  rcases hS with (hS | ⟨o, hS⟩) | hS
  · exact key _ (.inr rfl) ⟨_, hS, DRs.ints ns⟩
  · exact key _ (.inl rfl) ⟨_, .inl ⟨o, hS⟩, DRs.ints ns⟩
  · exact key _ (.inl rfl) ⟨_, .inr hS, DRs.ints ns⟩
/-! a head's hook that also knows the table of the interpreter's own statics -/
def asY (g : Addr → Option Obj) (n : Nat) : List Addr := He.asD g n ++ [cStatics]
def obsY (n : Nat) (fa : List He.Fa) (fn : List He.DefD) (ts : List He.Tab) (tf : List He.Defn) (ex : PySem.W.Frag → Bool) (g : Addr → Option Obj) : He.AlX := (He.obsT fa fn ts (He.frT g (asY g n)), ex (He.frT g (asY g n)) && He.tabsB g tf (He.frT g (asY g n)))
theorem saysY_of {n : Nat} {fa : List He.Fa} {fn : List He.DefD} {ts : List He.Tab} {tf : List He.Defn} {ex : PySem.W.Frag → Bool} {w : World} {h : Heap} (e : obsY n fa fn ts tf ex h.get? = He.valX fn ts w) : He.SaysX fa fn ts tf ex w h (He.frT h.get? (asY h.get? n)) := by
  have e1 : He.obsT fa fn ts (He.frT h.get? (asY h.get? n)) = He.valT fn ts w := congrArg (fun z : He.AlX => z.1) e
  have e2 : (ex (He.frT h.get? (asY h.get? n)) && He.tabsB h.get? tf (He.frT h.get? (asY h.get? n))) = true := congrArg (fun z : He.AlX => z.2) e
  obtain ⟨h1, h2⟩ := (Bool.and_eq_true _ _).mp e2
  have key : ∀ p ∈ tf, PySem.W.codeHdIn (He.frT h.get? (asY h.get? n)) (He.cT (He.frT h.get? (asY h.get? n)) p).1 (He.cT (He.frT h.get? (asY h.get? n)) p).2 = true ∧ ∃ o, h.get? (He.cT (He.frT h.get? (asY h.get? n)) p).2 = some o ∧ He.emptyTab o = true := fun p hp => by
    obtain ⟨h3, h4⟩ := (Bool.and_eq_true _ _).mp (List.all_eq_true.mp h2 p hp)
    refine ⟨h3, ?_⟩
    cases q : h.get? (He.cT (He.frT h.get? (asY h.get? n)) p).2 with
    | none =>
      rw [q] at h4
      cases h4
    | some o =>
      rw [q] at h4
      exact ⟨o, rfl, h4⟩
  exact ⟨e1, h1, fun p hp => (key p hp).1, fun p hp => by
    obtain ⟨_, o, q, z⟩ := key p hp
    exact He.frT_none q z, fun p hp => by
    obtain ⟨_, o, q, z⟩ := key p hp
    rw [q, He.emptyTab_eq z]⟩
def hookY (n : Nat) (fa : List He.Fa) (fn : List He.DefD) (ts : List He.Tab) (tf : List He.Defn) (ex : PySem.W.Frag → Bool) : PySem.W.Hook where
  α := He.AlX
  obs := fun s => obsY n fa fn ts tf ex s.heap.get?
  val := fun w => He.valX fn ts w
  says := fun w h => ∃ K : PySem.W.Frag, K.In h ∧ He.SaysX fa fn ts tf ex w h K
  of := fun _ _ e => ⟨_, He.frT_in, saysY_of e⟩
  keeps := fun _ _ _ ⟨K, hK, c⟩ k => ⟨K, PySem.W.Frag.In.keeps hK k, ⟨c.t, c.more, c.hd, c.out, fun p hp => k _ _ (c.empty p hp)⟩⟩
theorem obsY_eq {n : Nat} {fa : List He.Fa} {fn : List He.DefD} {ts : List He.Tab} {tf : List He.Defn} {ex : PySem.W.Frag → Bool} {g : Addr → Option Obj} {s : Shared} (h : ∀ a, g a = s.heap.get? a) : obsY n fa fn ts tf ex g = (hookY n fa fn ts tf ex).obs s := by
  have e : g = s.heap.get? := funext h
  rw [e] <;> rfl
end DL

namespace K88
open PySem PySem.Spec PyProof.Rows L2 DL
def top (i : Nat) : Stmt := PySem.Challenge.pw_askedorder_k88_heaps_by_any_answers.main.body.getD i (.Pass ⟨0, 0, 0, 0⟩)
abbrev s_InvalidKeys___init__ : Stmt := (inClass (top 2) 0)
abbrev s_InvalidAnswers___init__ : Stmt := (inClass (top 3) 0)
abbrev s_InvalidNumber___init__ : Stmt := (inClass (top 4) 0)
abbrev s_InvalidHeap___init__ : Stmt := (inClass (top 5) 0)
abbrev s_Paused___init__ : Stmt := (inClass (top 8) 0)
abbrev s_Honest___init__ : Stmt := (inClass (top 9) 0)
abbrev s_Honest_less : Stmt := (inClass (top 9) 1)
abbrev s_Told___init__ : Stmt := (inClass (top 10) 0)
abbrev s_Told_less : Stmt := (inClass (top 10) 1)
abbrev s_is_integer : Stmt := (top 11)
abbrev s_is_between : Stmt := (top 12)
abbrev s_require_keys : Stmt := (top 13)
abbrev s_require_answers : Stmt := (top 14)
abbrev s_require_number : Stmt := (top 15)
abbrev s_require_deed : Stmt := (top 20)
abbrev s_require_filled : Stmt := (top 21)
abbrev s_swap_places : Stmt := (top 22)
abbrev s_rise_from : Stmt := (top 23)
abbrev s_sink_from : Stmt := (top 24)
abbrev s_make_heap : Stmt := (top 25)
abbrev s_take_first : Stmt := (top 26)
abbrev s_put_first : Stmt := (top 27)
abbrev s_do_deed : Stmt := (top 28)
abbrev s_deed_done : Stmt := (top 29)
abbrev s_deed_told : Stmt := (top 30)
abbrev s__law_well : Stmt := (top 32)
abbrev s__law_draw : Stmt := (top 33)
abbrev s__law_pick : Stmt := (top 34)
abbrev s__law_ask : Stmt := (top 35)
abbrev s__law_up : Stmt := (top 36)
abbrev s__law_down : Stmt := (top 37)
abbrev s__law_first : Stmt := (top 38)
abbrev s__law_go : Stmt := (top 39)
abbrev s__law_deed : Stmt := (top 40)
abbrev s__law_honest : Stmt := (top 41)
abbrev s__law_words : Stmt := (top 42)
abbrev s__law_word : Stmt := (top 43)
abbrev s__law_items_right : Stmt := (top 44)
abbrev s__law_right : Stmt := (top 45)
abbrev s__law_honest_right : Stmt := (top 46)
abbrev s_law : Stmt := (top 47)
def xaK (K : PySem.W.Frag) (t : XT) : Addr := match t with
  | .keys => He.ga K "InvalidKeys"
  | .question => 0
  | .answer => 0
  | .answers => He.ga K "InvalidAnswers"
  | .order => 0
  | .lengths => 0
  | .blocks => 0
  | .number => He.ga K "InvalidNumber"
  | .heap => He.ga K "InvalidHeap"
  | .nothing => 0
  | .notfin => 0
  | .rowch => 0
  | .large => 0
  | .mismatch => 0
  | .paused => He.ga K "Paused"
def xtsK : List XT := [.keys, .answers, .number, .heap, .paused]
end K88

namespace K88
open PySem PySem.Spec PyProof.Rows L2 DL
def fa_0 : List He.Fa := [
  .glo "SortError",
  .glo "InvalidKeys",
  .glo "InvalidAnswers",
  .glo "InvalidNumber",
  .glo "InvalidHeap",
  .glo "Paused",
  .glo "Honest",
  .cls "Honest",
  .mkr "Honest",
  .noat "Honest" "marks",
  .noat "Honest" "log",
  .meth "Honest" "less",
  .glo "Told",
  .cls "Told",
  .mkr "Told",
  .noat "Told" "answers",
  .noat "Told" "log",
  .meth "Told" "less",
  .glo "is_integer",
  .glo "is_between",
  .glo "require_keys",
  .glo "require_answers",
  .glo "require_number",
  .glo "require_deed",
  .glo "require_filled",
  .glo "swap_places",
  .glo "rise_from",
  .glo "sink_from",
  .glo "make_heap",
  .glo "take_first"]
def fa_1 : List He.Fa := [
  .glo "put_first",
  .glo "do_deed",
  .glo "deed_done",
  .glo "deed_told",
  .glo "_law_well",
  .glo "_law_draw",
  .glo "_law_pick",
  .glo "_law_ask",
  .glo "_law_up",
  .glo "_law_down",
  .glo "_law_first",
  .glo "_law_go",
  .glo "_law_deed",
  .glo "_law_honest",
  .glo "_law_words",
  .glo "_law_word",
  .glo "_law_items_right",
  .glo "_law_right",
  .glo "_law_honest_right",
  .glo "law",
  .int "MAX_KEYS" 2000,
  .glo "DEEDS",
  .glo "BARE",
  .int "MAX_HEAP" 2500,
  .free "ValueError",
  .free "abs",
  .free "bool",
  .free "enumerate",
  .free "int",
  .free "isinstance"]
def fa_2 : List He.Fa := [
  .free "len",
  .free "list",
  .free "max",
  .free "range",
  .free "sorted",
  .free "str",
  .free "tuple"]
def fa : List He.Fa := fa_0 ++ fa_1 ++ fa_2
def fn_0 : List He.DefD := [
  ⟨("InvalidAnswers", some "__init__"), "__init__", "InvalidAnswers.__init__", defArgs s_InvalidAnswers___init__, defBody s_InvalidAnswers___init__, defScope s_InvalidAnswers___init__, [], []⟩,
  ⟨("Paused", some "__init__"), "__init__", "Paused.__init__", defArgs s_Paused___init__, defBody s_Paused___init__, defScope s_Paused___init__, [], []⟩,
  ⟨("Honest", some "__init__"), "__init__", "Honest.__init__", defArgs s_Honest___init__, defBody s_Honest___init__, defScope s_Honest___init__, [], []⟩,
  ⟨("Honest", some "less"), "less", "Honest.less", defArgs s_Honest_less, defBody s_Honest_less, defScope s_Honest_less, [], []⟩,
  ⟨("Told", some "__init__"), "__init__", "Told.__init__", defArgs s_Told___init__, defBody s_Told___init__, defScope s_Told___init__, [], []⟩,
  ⟨("Told", some "less"), "less", "Told.less", defArgs s_Told_less, defBody s_Told_less, defScope s_Told_less, [], []⟩,
  ⟨("is_integer", none), "is_integer", "is_integer", defArgs s_is_integer, defBody s_is_integer, defScope s_is_integer, [], []⟩,
  ⟨("is_between", none), "is_between", "is_between", defArgs s_is_between, defBody s_is_between, defScope s_is_between, [], []⟩,
  ⟨("require_keys", none), "require_keys", "require_keys", defArgs s_require_keys, defBody s_require_keys, defScope s_require_keys, [.int 2000], []⟩,
  ⟨("require_answers", none), "require_answers", "require_answers", defArgs s_require_answers, defBody s_require_answers, defScope s_require_answers, [], []⟩,
  ⟨("require_number", none), "require_number", "require_number", defArgs s_require_number, defBody s_require_number, defScope s_require_number, [], []⟩,
  ⟨("require_deed", none), "require_deed", "require_deed", defArgs s_require_deed, defBody s_require_deed, defScope s_require_deed, [], []⟩,
  ⟨("require_filled", none), "require_filled", "require_filled", defArgs s_require_filled, defBody s_require_filled, defScope s_require_filled, [], []⟩,
  ⟨("swap_places", none), "swap_places", "swap_places", defArgs s_swap_places, defBody s_swap_places, defScope s_swap_places, [], []⟩,
  ⟨("rise_from", none), "rise_from", "rise_from", defArgs s_rise_from, defBody s_rise_from, defScope s_rise_from, [], []⟩,
  ⟨("sink_from", none), "sink_from", "sink_from", defArgs s_sink_from, defBody s_sink_from, defScope s_sink_from, [], []⟩,
  ⟨("make_heap", none), "make_heap", "make_heap", defArgs s_make_heap, defBody s_make_heap, defScope s_make_heap, [], []⟩,
  ⟨("take_first", none), "take_first", "take_first", defArgs s_take_first, defBody s_take_first, defScope s_take_first, [], []⟩,
  ⟨("put_first", none), "put_first", "put_first", defArgs s_put_first, defBody s_put_first, defScope s_put_first, [], []⟩,
  ⟨("do_deed", none), "do_deed", "do_deed", defArgs s_do_deed, defBody s_do_deed, defScope s_do_deed, [], []⟩,
  ⟨("deed_done", none), "deed_done", "deed_done", defArgs s_deed_done, defBody s_deed_done, defScope s_deed_done, [.non], []⟩,
  ⟨("deed_told", none), "deed_told", "deed_told", defArgs s_deed_told, defBody s_deed_told, defScope s_deed_told, [], []⟩,
  ⟨("_law_well", none), "_law_well", "_law_well", defArgs s__law_well, defBody s__law_well, defScope s__law_well, [], []⟩,
  ⟨("_law_draw", none), "_law_draw", "_law_draw", defArgs s__law_draw, defBody s__law_draw, defScope s__law_draw, [], []⟩,
  ⟨("_law_pick", none), "_law_pick", "_law_pick", defArgs s__law_pick, defBody s__law_pick, defScope s__law_pick, [], []⟩,
  ⟨("_law_ask", none), "_law_ask", "_law_ask", defArgs s__law_ask, defBody s__law_ask, defScope s__law_ask, [], []⟩,
  ⟨("_law_up", none), "_law_up", "_law_up", defArgs s__law_up, defBody s__law_up, defScope s__law_up, [], []⟩,
  ⟨("_law_down", none), "_law_down", "_law_down", defArgs s__law_down, defBody s__law_down, defScope s__law_down, [], []⟩,
  ⟨("_law_first", none), "_law_first", "_law_first", defArgs s__law_first, defBody s__law_first, defScope s__law_first, [], []⟩,
  ⟨("_law_go", none), "_law_go", "_law_go", defArgs s__law_go, defBody s__law_go, defScope s__law_go, [], []⟩]
def fn_1 : List He.DefD := [
  ⟨("_law_deed", none), "_law_deed", "_law_deed", defArgs s__law_deed, defBody s__law_deed, defScope s__law_deed, [], []⟩,
  ⟨("_law_honest", none), "_law_honest", "_law_honest", defArgs s__law_honest, defBody s__law_honest, defScope s__law_honest, [], []⟩,
  ⟨("_law_words", none), "_law_words", "_law_words", defArgs s__law_words, defBody s__law_words, defScope s__law_words, [], []⟩,
  ⟨("_law_word", none), "_law_word", "_law_word", defArgs s__law_word, defBody s__law_word, defScope s__law_word, [], []⟩,
  ⟨("_law_items_right", none), "_law_items_right", "_law_items_right", defArgs s__law_items_right, defBody s__law_items_right, defScope s__law_items_right, [], []⟩,
  ⟨("_law_right", none), "_law_right", "_law_right", defArgs s__law_right, defBody s__law_right, defScope s__law_right, [], []⟩,
  ⟨("_law_honest_right", none), "_law_honest_right", "_law_honest_right", defArgs s__law_honest_right, defBody s__law_honest_right, defScope s__law_honest_right, [], []⟩,
  ⟨("law", none), "law", "law", defArgs s_law, defBody s_law, defScope s_law, [], []⟩]
def fn : List He.DefD := fn_0 ++ fn_1
def ex (K : PySem.W.Frag) : Bool := He.tupB K "DEEDS" [.str "heapify", .str "push", .str "pop", .str "replace", .str "pushpop"] && He.tupB K "BARE" [.str "heapify", .str "pop"] && seiB K (He.ga K "SortError") && xcB K (He.ga K "InvalidAnswers") (He.fAd K ("InvalidAnswers", some "__init__")) "index" && xcB K (He.ga K "Paused") (He.fAd K ("Paused", some "__init__")) "pair" && (xtsK.all fun t => decide (PySem.W.exmOne K (.ref (xaK K t)) (.ref (He.ga K "Paused")) = some (decide (t = .paused)))) && (xtsK.all fun t => decide (PySem.W.exmOne K (.ref (xaK K t)) (.ref (He.ga K "SortError")) = some true)) && (xtsK.all fun t => xfB K (xaK K t)) && (xtsK.all fun t => exiB K (xaK K t)) && (xtsK.all fun t => decide (PySem.W.findIn K (.ref (xaK K t)) "index" = some none)) && (xtsK.all fun t => decide (PySem.W.findIn K (.ref (xaK K t)) "pair" = some none)) && (xtsK.all fun t => decide (PySem.W.kitOne K (.ref (xaK K t)) (.ref (He.ga K "InvalidAnswers")) = some (decide (t = .answers)))) && ((tabsK K).all fun p => decide (p.1 = (He.cT K ("_law_right", none)).2 → p.2 = quOf ("_law_right", none) ++ ".<locals>." ++ "<lambda>")) && decide (¬ He.ga K "Told" = 0)
def loose : List Str := (["SortError", "InvalidKeys", "InvalidAnswers", "InvalidNumber", "InvalidHeap", "Paused", "Honest", "Told", "is_integer", "is_between", "require_keys", "require_answers", "require_number", "require_deed", "require_filled", "swap_places", "rise_from", "sink_from", "make_heap", "take_first", "put_first", "do_deed", "deed_done", "deed_told", "_law_well", "_law_draw", "_law_pick", "_law_ask", "_law_up", "_law_down"] : List Str) ++ (["_law_first", "_law_go", "_law_deed", "_law_honest", "_law_words", "_law_word", "_law_items_right", "_law_right", "_law_honest_right", "MAX_KEYS", "DEEDS", "BARE", "MAX_HEAP"] : List Str)
abbrev Rw : PySem.W.OpenRow := PySem.W.OpenLaw.row PySem.Challenge.rw_askedorder_k88_heaps_by_any_answers
abbrev hk : PySem.W.Hook := DL.hookY 6 fa fn [] [("_law_right", none)] ex
def ob (s : PySem.W.SharedT) : He.AlX := DL.obsY 6 fa fn [] [("_law_right", none)] ex (HandSHeadRun.getT s)
theorem ob_eq (s : PySem.W.SharedT) : ob s = hk.obs s.abs := DL.obsY_eq (HandSHeadRun.getT_eq s)
theorem run (w : World) : HandSHeadRun.RunEq Rw (PySem.W.view Rw.prog [47]) hk ob 6000 loose w := by
  intro os
  kernel_rfl
end K88

namespace K88
open PySem PySem.Spec PyProof.Rows L2 DL
section
variable {P : Program} {w : World} {K : PySem.W.Frag} {mg : Str → Option Value} {base : Heap} {cl : Cl}
structure Bl (K : PySem.W.Frag) (mg : Str → Option Value) (cl : Cl) : Prop where
  c_Honest : Cls K cl.Honest
  c_Told : Cls K cl.Told
  g_BARE : mg "BARE" = some (.ref (He.ga K "BARE"))
  g_DEEDS : mg "DEEDS" = some (.ref (He.ga K "DEEDS"))
  gx_InvalidAnswers : mg "InvalidAnswers" = some (.ref (cl.xa .answers))
  gx_Paused : mg "Paused" = some (.ref (cl.xa .paused))
  gx_SortError : mg "SortError" = some (.ref cl.sortE)
  i_MAX_HEAP : ∃ t, mg "MAX_HEAP" = some (.int 2500 t)
  n_abs : mg "abs" = none
  n_bool : mg "bool" = none
  n_enumerate : mg "enumerate" = none
  n_int : mg "int" = none
  n_isinstance : mg "isinstance" = none
  n_len : mg "len" = none
  n_list : mg "list" = none
  n_max : mg "max" = none
  n_range : mg "range" = none
  n_sorted : mg "sorted" = none
  n_str : mg "str" = none
  n_tuple : mg "tuple" = none
  na_Honest_log : NoAttr K cl.Honest "log"
  na_Honest_marks : NoAttr K cl.Honest "marks"
  na_Told_answers : NoAttr K cl.Told "answers"
  na_Told_log : NoAttr K cl.Told "log"
  ts_BARE : ∀ H, SqT K H (He.ga K "BARE") [.str "heapify", .str "pop"]
  ts_DEEDS : ∀ H, SqT K H (He.ga K "DEEDS") [.str "heapify", .str "push", .str "pop", .str "replace", .str "pushpop"]
  xf : ∀ t ∈ cl.xts, XfC K (cl.xa t)
  xi : ∀ t ∈ cl.xts, ExI K (cl.xa t)
  xk_InvalidAnswers : ∀ t ∈ cl.xts, PySem.W.kitOne K (.ref (cl.xa t)) (.ref (cl.xa .answers)) = some (decide (t = .answers))
  xm_Paused : ∀ t ∈ cl.xts, PySem.W.exmOne K (.ref (cl.xa t)) (.ref (cl.xa .paused)) = some (decide (t = .paused))
  xm_SortError : ∀ t ∈ cl.xts, PySem.W.exmOne K (.ref (cl.xa t)) (.ref cl.sortE) = some true
  xno_index : ∀ t ∈ cl.xts, PySem.W.findIn K (.ref (cl.xa t)) "index" = some none
  xno_pair : ∀ t ∈ cl.xts, PySem.W.findIn K (.ref (cl.xa t)) "pair" = some none
def ps__law_words : List Str := []
def N__law_words : List Str := []
theorem sc__law_words : FnScope N__law_words ps__law_words (defScope s__law_words) := ⟨rfl, rfl, rfl, by decide +kernel, rfl, by decide +kernel, by decide +kernel⟩
theorem ok__law_words (B : Bl K mg cl)  {f : Addr} {fd : FuncData} (F : FunD K "_law_words" "_law_words" (defArgs s__law_words) (defBody s__law_words) (defScope s__law_words) [] [] f fd) : FnOk P w K mg base CX0 1 f fd ps__law_words (liftC K (C__law_words cl)) :=
  fnOkS (t := t__law_words cl) F sc__law_words (fun ds F R Φ h => by obtain ⟨e, _⟩ := h; subst e; rfl) (fun cdv A outer s H E hr => pss_one' (ps_ret' (pe_lst' (pa_cons' (pe_str') (pa_cons' (pe_str') (pa_cons' (pe_str') (pa_cons' (pe_str') (pa_cons' (pe_str') (pa_nil'))))))))) (rd_law_words cl)
def ps__law_items_right : List Str := ["word", "many", "found"]
def N__law_items_right : List Str := ["word", "many", "found", "due", "missing", "order", "given", "question", "log", "item"]
theorem sc__law_items_right : FnScope N__law_items_right ps__law_items_right (defScope s__law_items_right) := ⟨rfl, rfl, rfl, by decide +kernel, rfl, by decide +kernel, by decide +kernel⟩
theorem ok__law_items_right (B : Bl K mg cl)  {f : Addr} {fd : FuncData} (F : FunD K "_law_items_right" "_law_items_right" (defArgs s__law_items_right) (defBody s__law_items_right) (defScope s__law_items_right) [] [] f fd) : FnOk P w K mg base CX0 1 f fd ps__law_items_right (liftC K (C__law_items_right cl)) :=
  fnOkS (t := t__law_items_right cl) F sc__law_items_right (fun ds F R Φ h => by obtain ⟨_, _, _, _, _, e, _⟩ := h; subst e; rfl) (fun cdv A outer s H E hr => pss_cons' (ps_asg' (pv' 2) (pg_tup' rfl (pgs_cons' (pg_name' (i := 5) sc__law_items_right.nd) (pgs_cons' (pg_name' (i := 6) sc__law_items_right.nd) (pgs_cons' (pg_name' (i := 7) sc__law_items_right.nd) (pgs_cons' (pg_name' (i := 8) sc__law_items_right.nd) (pgs_nil')))))))
  (pss_cons' (ps_set' (i := 3) sc__law_items_right.nd (pe_listRg1' rfl (by rfl) B.n_list (by rfl) B.n_range (pe_op' od_add op_addA (pv' 1) (pe_callTy' cd_int call_int1 (by rfl) B.n_int (by decide +kernel) (pa_cons' (pe_or' (pe_cmp' od_eq (op_eqA hr.units) (pv' 0) (pe_str') (nomark _)) (pe_one' (pe_cmp' od_in op_in_seq (pv' 0) (pe_tup' (pa_cons' (pe_str') (pa_cons' (pe_str') (pa_nil')))) (by with_unfolding_all rfl)))) (pa_nil'))))))
  (pss_cons' (ps_if' (pt_cmp' od_isnot op_notN (pv' 6) (pe_non') (nomark _)) (pss_one' (ps_ret' (pe_cmp' od_eq (op_eqA hr.units) (pe_callB' cd_sorted cr_sortedI (by rfl) B.n_sorted boot_sorted (pa_cons' (pe_op' od_add op_addA (pv' 5) (pe_lst' (pa_cons' (pv' 6) (pa_nil')))) (pa_nil'))) (pv' 3) (nomark _)))) (pss_nil'))
  (pss_cons' (ps_if' (pt_cmp' od_is op_isN (pv' 7) (pe_non') (nomark _)) (pss_one' (ps_ret' (pe_cmp' od_eq (op_eqA hr.units) (pe_callB' cd_sorted cr_sortedI (by rfl) B.n_sorted boot_sorted (pa_cons' (pv' 5) (pa_nil'))) (pv' 3) (nomark _)))) (pss_nil'))
  (pss_cons' (ps_setLc' (i := 4) (own := [("item", 9)]) (g := gName 9) (g' := gName' 9) rfl sc__law_items_right.nd (pi_seq' (pv' 3)) (blkOk_by (own := [("item", 9)]) (N := N__law_items_right) (sc := defScope s__law_items_right) (by decide +kernel)) (own_name (by decide)) (fun _ _ _ _ _ => pg_name (i := 9) sc__law_items_right.nd rfl (Or.inl rfl)) (fun _ _ _ _ _ => pts_one' (pt_cmp' od_notin op_notIn_seq (pv' 9) (pv' 5) (by with_unfolding_all rfl))) (fun _ _ _ _ _ => pv' 9))
  (pss_cons' (ps_if' (PW'.pt (pw_and' (pt_cmp' od_eq (op_eqA hr.units) (pv' 0) (pe_str') (nomark _)) (pw_and1' (pt_cmp' od_eq (op_eqA hr.units) (pv' 8) (pe_lst' (pa_nil')) (nomark _))))) (pss_one' (ps_ret' (pe_and' (pe_cmp' od_eq (op_eqA hr.units) (pv' 4) (pe_lst' (pa_cons' (pv' 1) (pa_nil'))) (nomark _)) (pe_one' (pe_cmp' od_eq (op_eqA hr.units) (pv' 5) (pe_slice' (pv' 3) (po_none') (po_some' (pe_neg' (pe_int')))) (nomark _)))))) (pss_nil'))
  (pss_cons' (ps_if' (pt_cmp' od_in op_in_seq (pv' 0) (pe_tup' (pa_cons' (pe_str') (pa_cons' (pe_str') (pa_cons' (pe_str') (pa_nil'))))) (by with_unfolding_all rfl)) (pss_one' (ps_ret' (pe_cmp' od_eq (op_eqA hr.units) (pv' 4) (pe_lst' (pa_cons' (pe_int') (pa_nil'))) (nomark _)))) (pss_nil'))
  (pss_one' (ps_ret' (pe_cmp' od_eq (op_eqA hr.units) (pv' 4) (pe_lst' (pa_nil')) (nomark _))))))))))) (rd_law_items_right cl)
def ps_swap_places : List Str := ["row", "one", "other"]
def N_swap_places : List Str := ["row", "one", "other"]
theorem sc_swap_places : FnScope N_swap_places ps_swap_places (defScope s_swap_places) := ⟨rfl, rfl, rfl, by decide +kernel, rfl, by decide +kernel, by decide +kernel⟩
theorem ok_swap_places (B : Bl K mg cl)  {f : Addr} {fd : FuncData} (F : FunD K "swap_places" "swap_places" (defArgs s_swap_places) (defBody s_swap_places) (defScope s_swap_places) [] [] f fd) : FnOk P w K mg base CX0 1 f fd ps_swap_places (liftC K (C_swap_places cl)) :=
  fnOkS (t := t_swap_places cl) F sc_swap_places (fun ds F R Φ h => by obtain ⟨_, _, _, _, e, _⟩ := h; subst e; rfl) (fun cdv A outer s H E hr => pss_one' (ps_asg' (pe_tup' (pa_cons' (pe_ix' (pv' 0) (pv' 2)) (pa_cons' (pe_ix' (pv' 0) (pv' 1)) (pa_nil')))) (pg_tup' rfl (pgs_cons' (pg_sub' (pv' 0) (pv' 1)) (pgs_cons' (pg_sub' (pv' 0) (pv' 2)) (pgs_nil')))))) (rd_swap_places cl)
def ps_Honest_less : List Str := ["self", "one", "other"]
def N_Honest_less : List Str := ["self", "one", "other", "is_less"]
theorem sc_Honest_less : FnScope N_Honest_less ps_Honest_less (defScope s_Honest_less) := ⟨rfl, rfl, rfl, by decide +kernel, rfl, by decide +kernel, by decide +kernel⟩
theorem ok_Honest_less (B : Bl K mg cl)  {f : Addr} {fd : FuncData} (F : FunD K "less" "Honest.less" (defArgs s_Honest_less) (defBody s_Honest_less) (defScope s_Honest_less) [] [] f fd) : FnOk P w K mg base CX0 1 f fd ps_Honest_less (liftC K (C_Honest_less cl)) :=
  fnOkS (t := t_Honest_less cl) F sc_Honest_less (fun ds F R Φ h => by obtain ⟨_, _, _, _, _, _, _, _, e, _⟩ := h; subst e; rfl) (fun cdv A outer s H E hr => pss_cons' (ps_set' (i := 3) sc_Honest_less.nd (pe_cmp' od_lt op_lt (pe_ix' (pe_fld' (f := 0) B.c_Honest B.na_Honest_marks (pv' 0)) (pv' 1)) (pe_ix' (pe_fld' (f := 0) B.c_Honest B.na_Honest_marks (pv' 0)) (pv' 2)) (nomark _)))
  (pss_cons' (ps_expr' (pe_lm' md_append PySem.F.slot_list_append PySem.F.type_list_append mt_append (pe_fld' (f := 1) B.c_Honest B.na_Honest_log (pv' 0)) (pa_cons' (pe_tup' (pa_cons' (pe_tup' (pa_cons' (pv' 1) (pa_cons' (pv' 2) (pa_nil')))) (pa_cons' (pv' 3) (pa_nil')))) (pa_nil'))))
  (pss_one' (ps_ret' (pv' 3))))) (rd_less cl)
def ps_Told_less : List Str := ["self", "one", "other"]
def N_Told_less : List Str := ["self", "one", "other", "is_less"]
theorem sc_Told_less : FnScope N_Told_less ps_Told_less (defScope s_Told_less) := ⟨rfl, rfl, rfl, by decide +kernel, rfl, by decide +kernel, by decide +kernel⟩
theorem ok_Told_less (B : Bl K mg cl) (X_Paused : XcC P w K mg base "Paused" (cl.xa .paused) "pair" 1) {f : Addr} {fd : FuncData} (F : FunD K "less" "Told.less" (defArgs s_Told_less) (defBody s_Told_less) (defScope s_Told_less) [] [] f fd) : FnOk P w K mg base (L2.CX P w) 3 f fd ps_Told_less (liftCX K cl.xa (C_Told_less cl)) :=
  fnOkX (t := t_Told_less cl) F sc_Told_less (fun ds F R Φ Ψ h => by obtain ⟨_, _, _, _, _, _, _, e, _⟩ := h; subst e; rfl) (fun W cdv A outer s H E hr tk po => pss_cons' (ps_if' (pt_cmp' od_eq (op_eqA hr.units) (pe_callB' cd_len call_len (by rfl) B.n_len PySem.boot_len (pa_cons' (pe_fld' (f := 1) B.c_Told B.na_Told_log (pv' 0)) (pa_nil'))) (pe_callB' cd_len call_len (by rfl) B.n_len PySem.boot_len (pa_cons' (pe_fld' (f := 2) B.c_Told B.na_Told_answers (pv' 0)) (pa_nil'))) (nomark _)) (pss_one' (ps_raise' (f := 3) rfl tk X_Paused (hr.mono (by decide)) (by rfl) (pe_tup' (pa_cons' (pv' 1) (pa_cons' (pv' 2) (pa_nil')))))) (pss_nil'))
  (pss_cons' (ps_set' (i := 3) sc_Told_less.nd (pe_ix' (pe_fld' (f := 2) B.c_Told B.na_Told_answers (pv' 0)) (pe_callB' cd_len call_len (by rfl) B.n_len PySem.boot_len (pa_cons' (pe_fld' (f := 1) B.c_Told B.na_Told_log (pv' 0)) (pa_nil')))))
  (pss_cons' (ps_expr' (pe_lm' md_append PySem.F.slot_list_append PySem.F.type_list_append mt_append (pe_fld' (f := 1) B.c_Told B.na_Told_log (pv' 0)) (pa_cons' (pe_tup' (pa_cons' (pe_tup' (pa_cons' (pv' 1) (pa_cons' (pv' 2) (pa_nil')))) (pa_cons' (pv' 3) (pa_nil')))) (pa_nil'))))
  (pss_one' (ps_ret' (pv' 3)))))) (rd_Told_less cl)
def ps_rise_from : List Str := ["row", "place", "low", "asker"]
def N_rise_from : List Str := ["row", "place", "low", "asker", "parent"]
theorem sc_rise_from : FnScope N_rise_from ps_rise_from (defScope s_rise_from) := ⟨rfl, rfl, rfl, by decide +kernel, rfl, by decide +kernel, by decide +kernel⟩
theorem ok_rise_from (B : Bl K mg cl) (G_swap_places : Fnd P w K mg base "swap_places" 3 [] (C_swap_places cl) 1) (G_Honest_less : Mtd P w K mg base cl.Honest "less" [] (C_Honest_less cl) 1) (G_Told_less_ : cl.Told ≠ 0 → MtdX P w K mg base cl.xa cl.Told "less" [] (C_Told_less cl) 3) {f : Addr} {fd : FuncData} (F : FunD K "rise_from" "rise_from" (defArgs s_rise_from) (defBody s_rise_from) (defScope s_rise_from) [] [] f fd) : FnOk P w K mg base (L2.CX P w) 4 f fd ps_rise_from (liftCX K cl.xa (C_rise_from cl)) :=
  fnOkX (t := t_rise_from cl) F sc_rise_from (fun ds F R Φ Ψ h => by obtain ⟨_, _, _, _, _, _, _, _, _, _, e, _⟩ := h; subst e; rfl) (fun W cdv A outer s H E hr tk po => pss_one' (ps_while' po (pt_cmp' od_gt op_gt (pv' 1) (pv' 2) (nomark _)) (pss_cons' (ps_set' (i := 4) sc_rise_from.nd (pe_op' od_fdiv op_fdivW (pe_op' od_sub op_sub (pv' 1) (pe_int')) (pe_int')))
  (pss_cons' (ps_if' (pt_not' (pt_tru' (pe_ask' (pl := _) G_Honest_less G_Told_less_ tk (hr.mono (by decide)) (hr.mono (by decide)) (pv' 3) (pa_cons' (pe_ix' (pv' 0) (pv' 1)) (pa_cons' (pe_ix' (pv' 0) (pv' 4)) (pa_nil')))))) (pss_one' (ps_retN')) (pss_nil'))
  (pss_cons' (ps_expr' (pe_call' G_swap_places (hr.mono (by decide)) (by rfl) (pa_cons' (pv' 0) (pa_cons' (pv' 1) (pa_cons' (pv' 4) (pa_nil'))))))
  (pss_one' (ps_set' (i := 1) sc_rise_from.nd (pv' 4)))))))) (rd_rise_from cl)
def ps_sink_from : List Str := ["row", "place", "asker"]
def N_sink_from : List Str := ["row", "place", "asker", "low", "many", "child"]
theorem sc_sink_from : FnScope N_sink_from ps_sink_from (defScope s_sink_from) := ⟨rfl, rfl, rfl, by decide +kernel, rfl, by decide +kernel, by decide +kernel⟩
theorem ok_sink_from (B : Bl K mg cl) (G_rise_from : FndX P w K mg base cl.xa "rise_from" 4 [] (C_rise_from cl) 4) (G_swap_places : Fnd P w K mg base "swap_places" 3 [] (C_swap_places cl) 1) (G_Honest_less : Mtd P w K mg base cl.Honest "less" [] (C_Honest_less cl) 1) (G_Told_less_ : cl.Told ≠ 0 → MtdX P w K mg base cl.xa cl.Told "less" [] (C_Told_less cl) 3) {f : Addr} {fd : FuncData} (F : FunD K "sink_from" "sink_from" (defArgs s_sink_from) (defBody s_sink_from) (defScope s_sink_from) [] [] f fd) : FnOk P w K mg base (L2.CX P w) 5 f fd ps_sink_from (liftCX K cl.xa (C_sink_from cl)) :=
  fnOkX (t := t_sink_from cl) F sc_sink_from (fun ds F R Φ Ψ h => by obtain ⟨_, _, _, _, _, _, _, _, e, _⟩ := h; subst e; rfl) (fun W cdv A outer s H E hr tk po => pss_cons' (ps_par' (i := 3) (j := 4) rfl sc_sink_from.nd (by decide) (pa_cons' (pv' 1) (pa_cons' (pe_callB' cd_len call_len (by rfl) B.n_len PySem.boot_len (pa_cons' (pv' 0) (pa_nil'))) (pa_nil'))))
  (pss_cons' (ps_while' po (pt_cmp' od_lt op_lt (pe_op' od_add op_addA (pe_op' od_mul op_mulA (pe_int') (pv' 1)) (pe_int')) (pv' 4) (nomark _)) (pss_cons' (ps_set' (i := 5) sc_sink_from.nd (pe_op' od_add op_addA (pe_op' od_mul op_mulA (pe_int') (pv' 1)) (pe_int')))
  (pss_cons' (ps_if' (PW'.pt (pw_and' (pt_cmp' od_lt op_lt (pe_op' od_add op_addA (pv' 5) (pe_int')) (pv' 4) (nomark _)) (pw_and1' (pt_not' (pt_tru' (pe_ask' (pl := _) G_Honest_less G_Told_less_ tk (hr.mono (by decide)) (hr.mono (by decide)) (pv' 2) (pa_cons' (pe_ix' (pv' 0) (pv' 5)) (pa_cons' (pe_ix' (pv' 0) (pe_op' od_add op_addA (pv' 5) (pe_int'))) (pa_nil'))))))))) (pss_one' (ps_aug' (i := 5) sc_sink_from.nd od_ipadd ip_add (pe_int'))) (pss_nil'))
  (pss_cons' (ps_expr' (pe_call' G_swap_places (hr.mono (by decide)) (by rfl) (pa_cons' (pv' 0) (pa_cons' (pv' 1) (pa_cons' (pv' 5) (pa_nil'))))))
  (pss_one' (ps_set' (i := 1) sc_sink_from.nd (pv' 5)))))))
  (pss_one' (ps_expr' (pe_callX' G_rise_from tk (hr.mono (by decide)) (by rfl) (pa_cons' (pv' 0) (pa_cons' (pv' 1) (pa_cons' (pv' 3) (pa_cons' (pv' 2) (pa_nil')))))))))) (rd_sink_from cl)
def ps_make_heap : List Str := ["row", "asker"]
def N_make_heap : List Str := ["row", "asker", "place"]
theorem sc_make_heap : FnScope N_make_heap ps_make_heap (defScope s_make_heap) := ⟨rfl, rfl, rfl, by decide +kernel, rfl, by decide +kernel, by decide +kernel⟩
theorem ok_make_heap (B : Bl K mg cl) (G_sink_from : FndX P w K mg base cl.xa "sink_from" 3 [] (C_sink_from cl) 5) {f : Addr} {fd : FuncData} (F : FunD K "make_heap" "make_heap" (defArgs s_make_heap) (defBody s_make_heap) (defScope s_make_heap) [] [] f fd) : FnOk P w K mg base (L2.CX P w) 6 f fd ps_make_heap (liftCX K cl.xa (C_make_heap cl)) :=
  fnOkX (t := t_make_heap cl) F sc_make_heap (fun ds F R Φ Ψ h => by obtain ⟨_, _, _, _, _, _, _, e, _⟩ := h; subst e; rfl) (fun W cdv A outer s H E hr tk po => pss_one' (ps_for' po rfl (pi_rangeDn' (by rfl) B.n_range (pa_cons' (pe_op' od_sub op_sub (pe_op' od_fdiv op_fdivW (pe_callB' cd_len call_len (by rfl) B.n_len PySem.boot_len (pa_cons' (pv' 0) (pa_nil'))) (pe_int')) (pe_int')) (pa_cons' (pe_neg' (pe_int')) (pa_cons' (pe_neg' (pe_int')) (pa_nil'))))) (pg_name' (i := 2) sc_make_heap.nd) (pss_one' (ps_expr' (pe_callX' G_sink_from tk (hr.mono (by decide)) (by rfl) (pa_cons' (pv' 0) (pa_cons' (pv' 2) (pa_cons' (pv' 1) (pa_nil'))))))))) (rd_make_heap cl)
def ps_take_first : List Str := ["row", "asker"]
def N_take_first : List Str := ["row", "asker", "last", "first"]
theorem sc_take_first : FnScope N_take_first ps_take_first (defScope s_take_first) := ⟨rfl, rfl, rfl, by decide +kernel, rfl, by decide +kernel, by decide +kernel⟩
theorem ok_take_first (B : Bl K mg cl) (G_sink_from : FndX P w K mg base cl.xa "sink_from" 3 [] (C_sink_from cl) 5) {f : Addr} {fd : FuncData} (F : FunD K "take_first" "take_first" (defArgs s_take_first) (defBody s_take_first) (defScope s_take_first) [] [] f fd) : FnOk P w K mg base (L2.CX P w) 6 f fd ps_take_first (liftCX K cl.xa (C_take_first cl)) :=
  fnOkX (t := t_take_first cl) F sc_take_first (fun ds F R Φ Ψ h => by obtain ⟨_, _, _, _, _, _, _, e, _⟩ := h; subst e; rfl) (fun W cdv A outer s H E hr tk po => pss_cons' (ps_set' (i := 2) sc_take_first.nd (pe_lm0' md_pop PySem.F.slot_list_pop PySem.F.type_list_pop mt_pop (pv' 0)))
  (pss_cons' (ps_if' (pt_cmp' od_eq (op_eqA hr.units) (pv' 0) (pe_lst' (pa_nil')) (nomark _)) (pss_one' (ps_ret' (pv' 2))) (pss_nil'))
  (pss_cons' (ps_asg' (pe_tup' (pa_cons' (pe_ix' (pv' 0) (pe_int')) (pa_cons' (pv' 2) (pa_nil')))) (pg_tup' rfl (pgs_cons' (pg_name' (i := 3) sc_take_first.nd) (pgs_cons' (pg_sub' (pv' 0) (pe_int')) (pgs_nil')))))
  (pss_cons' (ps_expr' (pe_callX' G_sink_from tk (hr.mono (by decide)) (by rfl) (pa_cons' (pv' 0) (pa_cons' (pe_int') (pa_cons' (pv' 1) (pa_nil'))))))
  (pss_one' (ps_ret' (pv' 3))))))) (rd_take_first cl)
def ps_put_first : List Str := ["row", "item", "asker"]
def N_put_first : List Str := ["row", "item", "asker", "first"]
theorem sc_put_first : FnScope N_put_first ps_put_first (defScope s_put_first) := ⟨rfl, rfl, rfl, by decide +kernel, rfl, by decide +kernel, by decide +kernel⟩
theorem ok_put_first (B : Bl K mg cl) (G_sink_from : FndX P w K mg base cl.xa "sink_from" 3 [] (C_sink_from cl) 5) {f : Addr} {fd : FuncData} (F : FunD K "put_first" "put_first" (defArgs s_put_first) (defBody s_put_first) (defScope s_put_first) [] [] f fd) : FnOk P w K mg base (L2.CX P w) 6 f fd ps_put_first (liftCX K cl.xa (C_put_first cl)) :=
  fnOkX (t := t_put_first cl) F sc_put_first (fun ds F R Φ Ψ h => by obtain ⟨_, _, _, _, _, _, _, _, e, _⟩ := h; subst e; rfl) (fun W cdv A outer s H E hr tk po => pss_cons' (ps_asg' (pe_tup' (pa_cons' (pe_ix' (pv' 0) (pe_int')) (pa_cons' (pv' 1) (pa_nil')))) (pg_tup' rfl (pgs_cons' (pg_name' (i := 3) sc_put_first.nd) (pgs_cons' (pg_sub' (pv' 0) (pe_int')) (pgs_nil')))))
  (pss_cons' (ps_expr' (pe_callX' G_sink_from tk (hr.mono (by decide)) (by rfl) (pa_cons' (pv' 0) (pa_cons' (pe_int') (pa_cons' (pv' 2) (pa_nil'))))))
  (pss_one' (ps_ret' (pv' 3))))) (rd_put_first cl)
def ps_do_deed : List Str := ["deed", "row", "asker"]
def N_do_deed : List Str := ["deed", "row", "asker", "many"]
theorem sc_do_deed : FnScope N_do_deed ps_do_deed (defScope s_do_deed) := ⟨rfl, rfl, rfl, by decide +kernel, rfl, by decide +kernel, by decide +kernel⟩
theorem ok_do_deed (B : Bl K mg cl) (G_make_heap : FndX P w K mg base cl.xa "make_heap" 2 [] (C_make_heap cl) 6) (G_rise_from : FndX P w K mg base cl.xa "rise_from" 4 [] (C_rise_from cl) 4) (G_take_first : FndX P w K mg base cl.xa "take_first" 2 [] (C_take_first cl) 6) (G_put_first : FndX P w K mg base cl.xa "put_first" 3 [] (C_put_first cl) 6) (G_Honest_less : Mtd P w K mg base cl.Honest "less" [] (C_Honest_less cl) 1) (G_Told_less_ : cl.Told ≠ 0 → MtdX P w K mg base cl.xa cl.Told "less" [] (C_Told_less cl) 3) {f : Addr} {fd : FuncData} (F : FunD K "do_deed" "do_deed" (defArgs s_do_deed) (defBody s_do_deed) (defScope s_do_deed) [] [] f fd) : FnOk P w K mg base (L2.CX P w) 7 f fd ps_do_deed (liftCX K cl.xa (C_do_deed cl)) :=
  fnOkX (t := t_do_deed cl) F sc_do_deed (fun ds F R Φ Ψ h => by obtain ⟨_, _, _, _, _, _, _, _, e, _⟩ := h; subst e; rfl) (fun W cdv A outer s H E hr tk po => pss_cons' (ps_set' (i := 3) sc_do_deed.nd (pe_callB' cd_len call_len (by rfl) B.n_len PySem.boot_len (pa_cons' (pv' 1) (pa_nil'))))
  (pss_cons' (ps_if' (pt_cmp' od_eq (op_eqA hr.units) (pv' 0) (pe_str') (nomark _)) (pss_one' (ps_expr' (pe_callX' G_make_heap tk (hr.mono (by decide)) (by rfl) (pa_cons' (pv' 1) (pa_cons' (pv' 2) (pa_nil')))))) (pss_one' (ps_if' (pt_cmp' od_eq (op_eqA hr.units) (pv' 0) (pe_str') (nomark _)) (pss_cons' (ps_expr' (pe_lm' md_append PySem.F.slot_list_append PySem.F.type_list_append mt_append (pv' 1) (pa_cons' (pv' 3) (pa_nil'))))
  (pss_one' (ps_expr' (pe_callX' G_rise_from tk (hr.mono (by decide)) (by rfl) (pa_cons' (pv' 1) (pa_cons' (pv' 3) (pa_cons' (pe_int') (pa_cons' (pv' 2) (pa_nil'))))))))) (pss_one' (ps_if' (pt_cmp' od_eq (op_eqA hr.units) (pv' 0) (pe_str') (nomark _)) (pss_one' (ps_ret' (pe_callX' G_take_first tk (hr.mono (by decide)) (by rfl) (pa_cons' (pv' 1) (pa_cons' (pv' 2) (pa_nil')))))) (pss_one' (ps_if' (pt_cmp' od_eq (op_eqA hr.units) (pv' 0) (pe_str') (nomark _)) (pss_one' (ps_ret' (pe_callX' G_put_first tk (hr.mono (by decide)) (by rfl) (pa_cons' (pv' 1) (pa_cons' (pv' 3) (pa_cons' (pv' 2) (pa_nil'))))))) (pss_one' (ps_if' (PW'.pt (pw_or' (pt_cmp' od_eq (op_eqA hr.units) (pv' 1) (pe_lst' (pa_nil')) (nomark _)) (pw_or1' (pt_not' (pt_tru' (pe_ask' (pl := _) G_Honest_less G_Told_less_ tk (hr.mono (by decide)) (hr.mono (by decide)) (pv' 2) (pa_cons' (pe_ix' (pv' 1) (pe_int')) (pa_cons' (pv' 3) (pa_nil'))))))))) (pss_one' (ps_ret' (pv' 3))) (pss_one' (ps_ret' (pe_callX' G_put_first tk (hr.mono (by decide)) (by rfl) (pa_cons' (pv' 1) (pa_cons' (pv' 3) (pa_cons' (pv' 2) (pa_nil'))))))))))))))))
  (pss_one' (ps_ret' (pe_non'))))) (rd_do_deed cl)
def ps_require_filled : List Str := ["deed", "many"]
def N_require_filled : List Str := ["deed", "many"]
theorem sc_require_filled : FnScope N_require_filled ps_require_filled (defScope s_require_filled) := ⟨rfl, rfl, rfl, by decide +kernel, rfl, by decide +kernel, by decide +kernel⟩
theorem ok_require_filled (B : Bl K mg cl)  {f : Addr} {fd : FuncData} (F : FunD K "require_filled" "require_filled" (defArgs s_require_filled) (defBody s_require_filled) (defScope s_require_filled) [] [] f fd) : FnOk P w K mg base CX0 1 f fd ps_require_filled (liftC K (C_require_filled cl)) :=
  fnOkS (t := t_require_filled cl) F sc_require_filled (fun ds F R Φ h => by obtain ⟨_, _, e, _⟩ := h; subst e; rfl) (fun cdv A outer s H E hr => pss_one' (ps_if' (PW'.pt (pw_and' (pt_cmp' od_eq (op_eqA hr.units) (pv' 1) (pe_int') (nomark _)) (pw_and1' (pt_cmp' od_in op_in_seq (pv' 0) (pe_tup' (pa_cons' (pe_str') (pa_cons' (pe_str') (pa_nil')))) (by with_unfolding_all rfl))))) (pss_one' (ps_never')) (pss_nil'))) (rd_require_filled cl)
def ps_require_answers : List Str := ["answers"]
def N_require_answers : List Str := ["answers", "index", "answer"]
theorem sc_require_answers : FnScope N_require_answers ps_require_answers (defScope s_require_answers) := ⟨rfl, rfl, rfl, by decide +kernel, rfl, by decide +kernel, by decide +kernel⟩
theorem ok_require_answers (B : Bl K mg cl)  {f : Addr} {fd : FuncData} (F : FunD K "require_answers" "require_answers" (defArgs s_require_answers) (defBody s_require_answers) (defScope s_require_answers) [] [] f fd) : FnOk P w K mg base CX0 1 f fd ps_require_answers (liftC K (C_require_answers cl)) :=
  fnOkS (t := t_require_answers cl) F sc_require_answers (fun ds F R Φ h => by obtain ⟨_, _, e, _⟩ := h; subst e; rfl) (fun cdv A outer s H E hr => pss_cons' (ps_if' (pt_not' (pt_tru' (pe_isi2' (by rfl) B.n_isinstance (by rfl) B.n_list (by decide +kernel) (by rfl) B.n_tuple (by decide +kernel) (pv' 0)))) (pss_one' (ps_never')) (pss_nil'))
  (pss_one' (ps_for' PassesOwn.never rfl (pi_enumA' (by rfl) B.n_enumerate (pa_cons' (pv' 0) (pa_nil'))) (pg_tup' rfl (pgs_cons' (pg_name' (i := 1) sc_require_answers.nd) (pgs_cons' (pg_name' (i := 2) sc_require_answers.nd) (pgs_nil')))) (pss_one' (ps_if' (pt_not' (pt_tru' (pe_isi' (by rfl) B.n_isinstance (by rfl) B.n_bool (by decide +kernel) (pv' 2)))) (pss_one' (ps_never')) (pss_nil')))))) (rd_require_answers cl)
def ps_is_integer : List Str := ["value"]
def N_is_integer : List Str := ["value"]
theorem sc_is_integer : FnScope N_is_integer ps_is_integer (defScope s_is_integer) := ⟨rfl, rfl, rfl, by decide +kernel, rfl, by decide +kernel, by decide +kernel⟩
theorem ok_is_integer (B : Bl K mg cl)  {f : Addr} {fd : FuncData} (F : FunD K "is_integer" "is_integer" (defArgs s_is_integer) (defBody s_is_integer) (defScope s_is_integer) [] [] f fd) : FnOk P w K mg base CX0 1 f fd ps_is_integer (liftC K (C_is_integer cl)) :=
  fnOkS (t := t_is_integer cl) F sc_is_integer (fun ds F R Φ h => by obtain ⟨_, e, _⟩ := h; subst e; rfl) (fun cdv A outer s H E hr => pss_one' (ps_ret' (pe_and' (pe_isi' (by rfl) B.n_isinstance (by rfl) B.n_int (by decide +kernel) (pv' 0)) (pe_one' (pe_not' (pe_isi' (by rfl) B.n_isinstance (by rfl) B.n_bool (by decide +kernel) (pv' 0))))))) (rd_is_integer cl)
def ps_is_between : List Str := ["value", "low", "high"]
def N_is_between : List Str := ["value", "low", "high"]
theorem sc_is_between : FnScope N_is_between ps_is_between (defScope s_is_between) := ⟨rfl, rfl, rfl, by decide +kernel, rfl, by decide +kernel, by decide +kernel⟩
theorem ok_is_between (B : Bl K mg cl) (G_is_integer : Fnd P w K mg base "is_integer" 1 [] (C_is_integer cl) 1) {f : Addr} {fd : FuncData} (F : FunD K "is_between" "is_between" (defArgs s_is_between) (defBody s_is_between) (defScope s_is_between) [] [] f fd) : FnOk P w K mg base CX0 2 f fd ps_is_between (liftC K (C_is_between cl)) :=
  fnOkS (t := t_is_between cl) F sc_is_between (fun ds F R Φ h => by obtain ⟨_, _, _, e, _⟩ := h; subst e; rfl) (fun cdv A outer s H E hr => pss_one' (ps_ret' (pe_and' (pe_call' G_is_integer (hr.mono (by decide)) (by rfl) (pa_cons' (pv' 0) (pa_nil'))) (pe_one' (pe_chain' od_le od_le op_le op_le (pv' 1) (pv' 0) (pv' 2)))))) (rd_is_between cl)
def ps_require_number : List Str := ["name", "value", "low", "high"]
def N_require_number : List Str := ["name", "value", "low", "high"]
theorem sc_require_number : FnScope N_require_number ps_require_number (defScope s_require_number) := ⟨rfl, rfl, rfl, by decide +kernel, rfl, by decide +kernel, by decide +kernel⟩
theorem ok_require_number (B : Bl K mg cl) (G_is_between : Fnd P w K mg base "is_between" 3 [] (C_is_between cl) 2) {f : Addr} {fd : FuncData} (F : FunD K "require_number" "require_number" (defArgs s_require_number) (defBody s_require_number) (defScope s_require_number) [] [] f fd) : FnOk P w K mg base CX0 3 f fd ps_require_number (liftC K (C_require_number cl)) :=
  fnOkS (t := t_require_number cl) F sc_require_number (fun ds F R Φ h => by obtain ⟨_, _, _, _, e, _⟩ := h; subst e; rfl) (fun cdv A outer s H E hr => pss_one' (ps_if' (pt_not' (pt_tru' (pe_call' G_is_between (hr.mono (by decide)) (by rfl) (pa_cons' (pv' 1) (pa_cons' (pv' 2) (pa_cons' (pv' 3) (pa_nil'))))))) (pss_one' (ps_never')) (pss_nil'))) (rd_require_number cl)
def ps_require_deed : List Str := ["deed"]
def N_require_deed : List Str := ["deed"]
theorem sc_require_deed : FnScope N_require_deed ps_require_deed (defScope s_require_deed) := ⟨rfl, rfl, rfl, by decide +kernel, rfl, by decide +kernel, by decide +kernel⟩
theorem ok_require_deed (B : Bl K mg cl)  {f : Addr} {fd : FuncData} (F : FunD K "require_deed" "require_deed" (defArgs s_require_deed) (defBody s_require_deed) (defScope s_require_deed) [] [] f fd) : FnOk P w K mg base CX0 1 f fd ps_require_deed (liftC K (C_require_deed cl)) :=
  fnOkS (t := t_require_deed cl) F sc_require_deed (fun ds F R Φ h => by obtain ⟨_, e, _⟩ := h; subst e; rfl) (fun cdv A outer s H E hr => pss_one' (ps_if' (PW'.pt (pw_or' (pt_not' (pt_tru' (pe_isi' (by rfl) B.n_isinstance (by rfl) B.n_str (by decide +kernel) (pv' 0)))) (pw_or1' (pt_cmp' od_notin op_notIn_seq (pv' 0) (pe_gtup (by rfl) B.g_DEEDS B.ts_DEEDS (fun _ => by repeat constructor)) (by with_unfolding_all rfl))))) (pss_one' (ps_never')) (pss_nil'))) (rd_require_deed cl)
def ps_Told___init__ : List Str := ["self", "answers"]
def N_Told___init__ : List Str := ["self", "answers"]
theorem sc_Told___init__ : FnScope N_Told___init__ ps_Told___init__ (defScope s_Told___init__) := ⟨rfl, rfl, rfl, by decide +kernel, rfl, by decide +kernel, by decide +kernel⟩
theorem ok_Told___init__ (B : Bl K mg cl)  {f : Addr} {fd : FuncData} (F : FunD K "__init__" "Told.__init__" (defArgs s_Told___init__) (defBody s_Told___init__) (defScope s_Told___init__) [] [] f fd) : FnOk P w K mg base CX0 1 f fd ps_Told___init__ (liftC K (C_Told___init__ cl)) :=
  fnOkS (t := t_Told___init__ cl) F sc_Told___init__ (fun ds F R Φ h => by obtain ⟨_, _, _, _, e, _⟩ := h; subst e; rfl) (fun cdv A outer s H E hr => pss_one' (ps_asg' (pe_tup' (pa_cons' (pe_callTy' cd_list call_list_of (by rfl) B.n_list (by decide +kernel) (pa_cons' (pv' 1) (pa_nil'))) (pa_cons' (pe_lst' (pa_nil')) (pa_nil')))) (pg_tup' rfl (pgs_cons' (pg_fld' (f := 2) B.c_Told B.na_Told_answers (pv' 0)) (pgs_cons' (pg_fld' (f := 1) B.c_Told B.na_Told_log (pv' 0)) (pgs_nil')))))) (rd_Told_init cl)
def ps_deed_told : List Str := ["deed", "many", "answers"]
def N_deed_told : List Str := ["deed", "many", "answers", "pause", "row", "asker", "given", "question", "one", "answer"]
theorem sc_deed_told : FnScope N_deed_told ps_deed_told (defScope s_deed_told) := ⟨rfl, rfl, rfl, by decide +kernel, rfl, by decide +kernel, by decide +kernel⟩
theorem ok_deed_told (B : Bl K mg cl) (G_do_deed : FndX P w K mg base cl.xa "do_deed" 3 [] (C_do_deed cl) 7) (G_require_filled : Fnd P w K mg base "require_filled" 2 [] (C_require_filled cl) 1) (G_require_answers : Fnd P w K mg base "require_answers" 1 [] (C_require_answers cl) 1) (G_require_number : Fnd P w K mg base "require_number" 4 [] (C_require_number cl) 3) (G_require_deed : Fnd P w K mg base "require_deed" 1 [] (C_require_deed cl) 1) (G_Told : Mkd P w K mg base "Told" cl.Told [] (C_Told___init__ cl) 1) (X_InvalidAnswers : XcC P w K mg base "InvalidAnswers" (cl.xa .answers) "index" 1) {f : Addr} {fd : FuncData} (F : FunD K "deed_told" "deed_told" (defArgs s_deed_told) (defBody s_deed_told) (defScope s_deed_told) [] [] f fd) : FnOk P w K mg base (L2.CX P w) 8 f fd ps_deed_told (liftCX K cl.xa (C_deed_told cl)) :=
  fnOkX (t := t_deed_told cl) F sc_deed_told (fun ds F R Φ Ψ h => by obtain ⟨_, _, _, _, e, _⟩ := h; subst e; rfl) (fun W cdv A outer s H E hr tk po => pss_cons' (ps_expr' (pe_call' G_require_deed (hr.mono (by decide)) (by rfl) (pa_cons' (pv' 0) (pa_nil'))))
  (pss_cons' (ps_expr' (pe_call' G_require_number (hr.mono (by decide)) (by rfl) (pa_cons' (pe_str') (pa_cons' (pv' 1) (pa_cons' (pe_int') (pa_cons' (pe_gint (by rfl) B.i_MAX_HEAP) (pa_nil')))))))
  (pss_cons' (ps_expr' (pe_call' G_require_answers (hr.mono (by decide)) (by rfl) (pa_cons' (pv' 2) (pa_nil'))))
  (pss_cons' (ps_expr' (pe_call' G_require_filled (hr.mono (by decide)) (by rfl) (pa_cons' (pv' 0) (pa_cons' (pv' 1) (pa_nil')))))
  (pss_cons' (ps_asg' (pe_tup' (pa_cons' (pe_listRg1' rfl (by rfl) B.n_list (by rfl) B.n_range (pv' 1)) (pa_cons' (pe_make' G_Told (no_Told cl) (hr.mono (by decide)) (by rfl) (pa_cons' (pv' 2) (pa_nil'))) (pa_cons' (pe_non') (pa_cons' (pe_non') (pa_nil')))))) (pg_tup' rfl (pgs_cons' (pg_name' (i := 4) sc_deed_told.nd) (pgs_cons' (pg_name' (i := 5) sc_deed_told.nd) (pgs_cons' (pg_name' (i := 6) sc_deed_told.nd) (pgs_cons' (pg_name' (i := 7) sc_deed_told.nd) (pgs_nil')))))))
  (pss_cons' (ps_tryAs' (i := 3) (xa := cl.xa) rfl rfl sc_deed_told.nd rfl rfl ⟨by rfl, by rfl, .inl B.gx_Paused⟩ tk B.xm_Paused (fun W1 pn1 xe1 tk1 po1 => pss_one' (ps_set' (i := 6) sc_deed_told.nd (pe_callX' G_do_deed tk1 (hr.mono (by decide)) (by rfl) (pa_cons' (pv' 0) (pa_cons' (pv' 4) (pa_cons' (pv' 5) (pa_nil'))))))) (fun a1 oe1 C1 d1 pn1 hC1 hz1 hv1 => pss_one' (ps_set' (i := 7) sc_deed_told.nd (pe_xf' (f := 3) (B.xf _ hC1) (B.xno_pair _ hC1) hz1 hv1 (pv' 3)))))
  (pss_wk' (t := t_deed_told_s6 cl W) (pss_cons' (ps_if' (PW'.pt (pw_and' (pt_cmp' od_is op_isN (pv' 7) (pe_non') (nomark _)) (pw_and1' (pt_cmp' od_lt op_lt (pe_callB' cd_len call_len (by rfl) B.n_len PySem.boot_len (pa_cons' (pe_fld' (f := 1) B.c_Told B.na_Told_log (pv' 5)) (pa_nil'))) (pe_callB' cd_len call_len (by rfl) B.n_len PySem.boot_len (pa_cons' (pv' 2) (pa_nil'))) (nomark _))))) (pss_one' (ps_raise' (f := 20) rfl tk X_InvalidAnswers (hr.mono (by decide)) (by rfl) (pe_callB' cd_len call_len (by rfl) B.n_len PySem.boot_len (pa_cons' (pe_fld' (f := 1) B.c_Told B.na_Told_log (pv' 5)) (pa_nil'))))) (pss_nil'))
  (pss_one' (ps_ret' (pe_tup' (pa_cons' (pv' 4) (pa_cons' (pv' 6) (pa_cons' (pv' 7) (pa_cons' (pe_lc' (own := [("one", 8), ("answer", 9)]) (g := gTup K 2 (gCons (gName 8) (gCons (gName 9) (gNil)))) (g' := gTup' 2 (gCons' (gName' 8) (gCons' (gName' 9) (gNil')))) rfl sc_deed_told.nd (pi_seq' (pe_fld' (f := 1) B.c_Told B.na_Told_log (pv' 5))) (blkOk_by (own := [("one", 8), ("answer", 9)]) (N := N_deed_told) (sc := defScope s_deed_told) (by decide +kernel)) (own_tup (own_cons (own_name (by decide)) (own_cons (own_name (by decide)) (own_nil)))) (fun _ _ _ _ _ => pg_tup rfl (pgs_cons (pg_name (i := 8) sc_deed_told.nd rfl (Or.inl rfl)) (pgs_cons (pg_name (i := 9) sc_deed_told.nd rfl (Or.inl rfl)) (pgs_nil)))) (fun _ _ _ _ _ => pts_nil') (fun _ _ _ _ _ => pv' 8)) (pa_nil')))))))))))))))) (rd_deed_told cl)
def ps__law_ask : List Str := ["log", "one", "other"]
def N__law_ask : List Str := ["log", "one", "other"]
theorem sc__law_ask : FnScope N__law_ask ps__law_ask (defScope s__law_ask) := ⟨rfl, rfl, rfl, by decide +kernel, rfl, by decide +kernel, by decide +kernel⟩
theorem ok__law_ask (B : Bl K mg cl)  {f : Addr} {fd : FuncData} (F : FunD K "_law_ask" "_law_ask" (defArgs s__law_ask) (defBody s__law_ask) (defScope s__law_ask) [] [] f fd) : FnOk P w K mg base CX0 1 f fd ps__law_ask (liftC K (C__law_ask cl)) :=
  fnOkS (t := t__law_ask cl) F sc__law_ask (fun ds F R Φ h => by obtain ⟨_, _, _, _, _, _, _, e, _⟩ := h; subst e; rfl) (fun cdv A outer s H E hr => pss_cons' (ps_expr' (pe_lm' md_append PySem.F.slot_list_append PySem.F.type_list_append mt_append (pe_ix' (pv' 0) (pe_int')) (pa_cons' (pe_tup' (pa_cons' (pv' 1) (pa_cons' (pv' 2) (pa_nil')))) (pa_nil'))))
  (pss_cons' (ps_if' (pt_cmp' od_gt op_gt (pe_callB' cd_len call_len (by rfl) B.n_len PySem.boot_len (pa_cons' (pe_ix' (pv' 0) (pe_int')) (pa_nil'))) (pe_callB' cd_len call_len (by rfl) B.n_len PySem.boot_len (pa_cons' (pe_ix' (pv' 0) (pe_int')) (pa_nil'))) (nomark _)) (pss_one' (ps_ret' (pe_non'))) (pss_nil'))
  (pss_one' (ps_ret' (pe_ix' (pe_ix' (pv' 0) (pe_int')) (pe_op' od_sub op_sub (pe_callB' cd_len call_len (by rfl) B.n_len PySem.boot_len (pa_cons' (pe_ix' (pv' 0) (pe_int')) (pa_nil'))) (pe_int'))))))) (rd_law_ask cl)
def ps__law_up : List Str := ["row", "low", "at", "log"]
def N__law_up : List Str := ["row", "low", "at", "log", "turn", "above", "is_less"]
theorem sc__law_up : FnScope N__law_up ps__law_up (defScope s__law_up) := ⟨rfl, rfl, rfl, by decide +kernel, rfl, by decide +kernel, by decide +kernel⟩
theorem ok__law_up (B : Bl K mg cl) (G__law_ask : Fnd P w K mg base "_law_ask" 3 [] (C__law_ask cl) 1) {f : Addr} {fd : FuncData} (F : FunD K "_law_up" "_law_up" (defArgs s__law_up) (defBody s__law_up) (defScope s__law_up) [] [] f fd) : FnOk P w K mg base CX0 2 f fd ps__law_up (liftC K (C__law_up cl)) :=
  fnOkS (t := t__law_up cl) F sc__law_up (fun ds F R Φ h => by obtain ⟨_, _, _, _, _, _, _, _, _, e, _⟩ := h; subst e; rfl) (fun cdv A outer s H E hr => pss_cons' (ps_for' PassesOwn.never rfl (pi_range1' (by rfl) B.n_range (pa_cons' (pe_callB' cd_len call_len (by rfl) B.n_len PySem.boot_len (pa_cons' (pv' 0) (pa_nil'))) (pa_nil'))) (pg_name' (i := 4) sc__law_up.nd) (pss_cons' (ps_if' (pt_cmp' od_le op_le (pv' 2) (pv' 1) (nomark _)) (pss_one' (ps_ret' (pe_bl'))) (pss_nil'))
  (pss_cons' (ps_set' (i := 5) sc__law_up.nd (pe_op' od_sub op_sub (pe_op' od_fdiv op_fdivW (pe_op' od_add op_addA (pv' 2) (pe_int')) (pe_int')) (pe_int')))
  (pss_cons' (ps_set' (i := 6) sc__law_up.nd (pe_call' G__law_ask (hr.mono (by decide)) (by rfl) (pa_cons' (pv' 3) (pa_cons' (pe_ix' (pv' 0) (pv' 2)) (pa_cons' (pe_ix' (pv' 0) (pv' 5)) (pa_nil'))))))
  (pss_cons' (ps_if' (pt_cmp' od_is op_isN (pv' 6) (pe_non') (nomark _)) (pss_one' (ps_ret' (pe_bl'))) (pss_nil'))
  (pss_cons' (ps_if' (pt_not' (pt_tru' (pv' 6))) (pss_one' (ps_ret' (pe_bl'))) (pss_nil'))
  (pss_cons' (ps_asg' (pe_tup' (pa_cons' (pe_ix' (pv' 0) (pv' 5)) (pa_cons' (pe_ix' (pv' 0) (pv' 2)) (pa_nil')))) (pg_tup' rfl (pgs_cons' (pg_sub' (pv' 0) (pv' 2)) (pgs_cons' (pg_sub' (pv' 0) (pv' 5)) (pgs_nil')))))
  (pss_one' (ps_set' (i := 2) sc__law_up.nd (pv' 5))))))))))
  (pss_one' (ps_ret' (pe_bl')))) (rd_law_up cl)
def ps__law_down : List Str := ["row", "low", "log"]
def N__law_down : List Str := ["row", "low", "log", "at", "turn", "below", "after", "is_less", "place"]
theorem sc__law_down : FnScope N__law_down ps__law_down (defScope s__law_down) := ⟨rfl, rfl, rfl, by decide +kernel, rfl, by decide +kernel, by decide +kernel⟩
theorem ok__law_down (B : Bl K mg cl) (G__law_up : Fnd P w K mg base "_law_up" 4 [] (C__law_up cl) 2) (G__law_ask : Fnd P w K mg base "_law_ask" 3 [] (C__law_ask cl) 1) {f : Addr} {fd : FuncData} (F : FunD K "_law_down" "_law_down" (defArgs s__law_down) (defBody s__law_down) (defScope s__law_down) [] [] f fd) : FnOk P w K mg base CX0 3 f fd ps__law_down (liftC K (C__law_down cl)) :=
  fnOkS (t := t__law_down cl) F sc__law_down (fun ds F R Φ h => by obtain ⟨_, _, _, _, _, _, _, _, e, _⟩ := h; subst e; rfl) (fun cdv A outer s H E hr => pss_cons' (ps_set' (i := 3) sc__law_down.nd (pv' 1))
  (pss_cons' (ps_for' PassesOwn.never rfl (pi_range1' (by rfl) B.n_range (pa_cons' (pe_callB' cd_len call_len (by rfl) B.n_len PySem.boot_len (pa_cons' (pv' 0) (pa_nil'))) (pa_nil'))) (pg_name' (i := 4) sc__law_down.nd) (pss_cons' (ps_setLc' (i := 5) (own := [("place", 8)]) (g := gName 8) (g' := gName' 8) rfl sc__law_down.nd (pi_seq' (pe_tup' (pa_cons' (pe_op' od_add op_addA (pe_op' od_mul op_mulA (pe_int') (pv' 3)) (pe_int')) (pa_cons' (pe_op' od_add op_addA (pe_op' od_mul op_mulA (pe_int') (pv' 3)) (pe_int')) (pa_nil'))))) (blkOk_by (own := [("place", 8)]) (N := N__law_down) (sc := defScope s__law_down) (by decide +kernel)) (own_name (by decide)) (fun _ _ _ _ _ => pg_name (i := 8) sc__law_down.nd rfl (Or.inl rfl)) (fun _ _ _ _ _ => pts_one' (pt_cmp' od_lt op_lt (pv' 8) (pe_callB' cd_len call_len (by rfl) B.n_len PySem.boot_len (pa_cons' (pv' 0) (pa_nil'))) (nomark _))) (fun _ _ _ _ _ => pv' 8))
  (pss_cons' (ps_if' (pt_cmp' od_eq (op_eqA hr.units) (pv' 5) (pe_lst' (pa_nil')) (nomark _)) (pss_one' (ps_break')) (pss_nil'))
  (pss_cons' (ps_set' (i := 6) sc__law_down.nd (pe_ix' (pv' 5) (pe_int')))
  (pss_cons' (ps_if' (pt_cmp' od_eq (op_eqA hr.units) (pe_callB' cd_len call_len (by rfl) B.n_len PySem.boot_len (pa_cons' (pv' 5) (pa_nil'))) (pe_int') (nomark _)) (pss_cons' (ps_set' (i := 7) sc__law_down.nd (pe_call' G__law_ask (hr.mono (by decide)) (by rfl) (pa_cons' (pv' 2) (pa_cons' (pe_ix' (pv' 0) (pe_ix' (pv' 5) (pe_int'))) (pa_cons' (pe_ix' (pv' 0) (pe_ix' (pv' 5) (pe_int'))) (pa_nil'))))))
  (pss_cons' (ps_if' (pt_cmp' od_is op_isN (pv' 7) (pe_non') (nomark _)) (pss_one' (ps_ret' (pe_bl'))) (pss_nil'))
  (pss_one' (ps_set' (i := 6) sc__law_down.nd (pe_ifExp' (pt_tru' (pv' 7)) (pe_ix' (pv' 5) (pe_int')) (pe_ix' (pv' 5) (pe_int'))))))) (pss_nil'))
  (pss_cons' (ps_asg' (pe_tup' (pa_cons' (pe_ix' (pv' 0) (pv' 6)) (pa_cons' (pe_ix' (pv' 0) (pv' 3)) (pa_nil')))) (pg_tup' rfl (pgs_cons' (pg_sub' (pv' 0) (pv' 3)) (pgs_cons' (pg_sub' (pv' 0) (pv' 6)) (pgs_nil')))))
  (pss_one' (ps_set' (i := 3) sc__law_down.nd (pv' 6)))))))))
  (pss_one' (ps_ret' (pe_call' G__law_up (hr.mono (by decide)) (by rfl) (pa_cons' (pv' 0) (pa_cons' (pv' 1) (pa_cons' (pv' 3) (pa_cons' (pv' 2) (pa_nil')))))))))) (rd_law_down cl)
def ps__law_first : List Str := ["row", "item", "log"]
def N__law_first : List Str := ["row", "item", "log", "first"]
theorem sc__law_first : FnScope N__law_first ps__law_first (defScope s__law_first) := ⟨rfl, rfl, rfl, by decide +kernel, rfl, by decide +kernel, by decide +kernel⟩
theorem ok__law_first (B : Bl K mg cl) (G__law_down : Fnd P w K mg base "_law_down" 3 [] (C__law_down cl) 3) {f : Addr} {fd : FuncData} (F : FunD K "_law_first" "_law_first" (defArgs s__law_first) (defBody s__law_first) (defScope s__law_first) [] [] f fd) : FnOk P w K mg base CX0 4 f fd ps__law_first (liftC K (C__law_first cl)) :=
  fnOkS (t := t__law_first cl) F sc__law_first (fun ds F R Φ h => by obtain ⟨_, _, _, _, _, _, _, _, e, _⟩ := h; subst e; rfl) (fun cdv A outer s H E hr => pss_cons' (ps_asg' (pe_tup' (pa_cons' (pe_ix' (pv' 0) (pe_int')) (pa_cons' (pv' 1) (pa_nil')))) (pg_tup' rfl (pgs_cons' (pg_name' (i := 3) sc__law_first.nd) (pgs_cons' (pg_sub' (pv' 0) (pe_int')) (pgs_nil')))))
  (pss_one' (ps_ret' (pe_tup' (pa_cons' (pv' 3) (pa_cons' (pe_call' G__law_down (hr.mono (by decide)) (by rfl) (pa_cons' (pv' 0) (pa_cons' (pe_int') (pa_cons' (pv' 2) (pa_nil'))))) (pa_nil'))))))) (rd_law_first cl)
def ps__law_go : List Str := ["word", "row", "log"]
def N__law_go : List Str := ["word", "row", "log", "many", "at", "last", "is_less"]
theorem sc__law_go : FnScope N__law_go ps__law_go (defScope s__law_go) := ⟨rfl, rfl, rfl, by decide +kernel, rfl, by decide +kernel, by decide +kernel⟩
theorem ok__law_go (B : Bl K mg cl) (G__law_first : Fnd P w K mg base "_law_first" 3 [] (C__law_first cl) 4) (G__law_ask : Fnd P w K mg base "_law_ask" 3 [] (C__law_ask cl) 1) (G__law_up : Fnd P w K mg base "_law_up" 4 [] (C__law_up cl) 2) (G__law_down : Fnd P w K mg base "_law_down" 3 [] (C__law_down cl) 3) {f : Addr} {fd : FuncData} (F : FunD K "_law_go" "_law_go" (defArgs s__law_go) (defBody s__law_go) (defScope s__law_go) [] [] f fd) : FnOk P w K mg base CX0 5 f fd ps__law_go (liftC K (C__law_go cl)) :=
  fnOkS (t := t__law_go cl) F sc__law_go (fun ds F R Φ h => by obtain ⟨_, _, _, _, _, _, _, e, _⟩ := h; subst e; rfl) (fun cdv A outer s H E hr => pss_cons' (ps_set' (i := 3) sc__law_go.nd (pe_callB' cd_len call_len (by rfl) B.n_len PySem.boot_len (pa_cons' (pv' 1) (pa_nil'))))
  (pss_cons' (ps_if' (pt_cmp' od_eq (op_eqA hr.units) (pv' 0) (pe_str') (nomark _)) (pss_cons' (ps_for' PassesOwn.never rfl (pi_rangeDn' (by rfl) B.n_range (pa_cons' (pe_op' od_sub op_sub (pv' 3) (pe_int')) (pa_cons' (pe_neg' (pe_int')) (pa_cons' (pe_neg' (pe_int')) (pa_nil'))))) (pg_name' (i := 4) sc__law_go.nd) (pss_one' (ps_if' (PW'.pt (pw_and' (pt_cmp' od_lt op_lt (pe_op' od_add op_addA (pe_op' od_mul op_mulA (pe_int') (pv' 4)) (pe_int')) (pv' 3) (nomark _)) (pw_and1' (pt_not' (pt_tru' (pe_call' G__law_down (hr.mono (by decide)) (by rfl) (pa_cons' (pv' 1) (pa_cons' (pv' 4) (pa_cons' (pv' 2) (pa_nil')))))))))) (pss_one' (ps_ret' (pe_tup' (pa_cons' (pe_non') (pa_cons' (pe_bl') (pa_nil')))))) (pss_nil'))))
  (pss_one' (ps_ret' (pe_tup' (pa_cons' (pe_non') (pa_cons' (pe_bl') (pa_nil'))))))) (pss_nil'))
  (pss_cons' (ps_if' (pt_cmp' od_eq (op_eqA hr.units) (pv' 0) (pe_str') (nomark _)) (pss_cons' (ps_expr' (pe_lm' md_append PySem.F.slot_list_append PySem.F.type_list_append mt_append (pv' 1) (pa_cons' (pv' 3) (pa_nil'))))
  (pss_one' (ps_ret' (pe_tup' (pa_cons' (pe_non') (pa_cons' (pe_call' G__law_up (hr.mono (by decide)) (by rfl) (pa_cons' (pv' 1) (pa_cons' (pe_int') (pa_cons' (pv' 3) (pa_cons' (pv' 2) (pa_nil')))))) (pa_nil'))))))) (pss_nil'))
  (pss_cons' (ps_if' (pt_cmp' od_eq (op_eqA hr.units) (pv' 0) (pe_str') (nomark _)) (pss_cons' (ps_set' (i := 5) sc__law_go.nd (pe_lm0' md_pop PySem.F.slot_list_pop PySem.F.type_list_pop mt_pop (pv' 1)))
  (pss_one' (ps_ret' (pe_ifExp' (pt_cmp' od_eq (op_eqA hr.units) (pv' 1) (pe_lst' (pa_nil')) (nomark _)) (pe_tup' (pa_cons' (pv' 5) (pa_cons' (pe_bl') (pa_nil')))) (pe_call' G__law_first (hr.mono (by decide)) (by rfl) (pa_cons' (pv' 1) (pa_cons' (pv' 5) (pa_cons' (pv' 2) (pa_nil'))))))))) (pss_nil'))
  (pss_cons' (ps_if' (pt_cmp' od_eq (op_eqA hr.units) (pv' 0) (pe_str') (nomark _)) (pss_cons' (ps_set' (i := 6) sc__law_go.nd (pe_ifExp' (pt_cmp' od_ne (op_neA hr.units) (pv' 1) (pe_lst' (pa_nil')) (nomark _)) (pe_call' G__law_ask (hr.mono (by decide)) (by rfl) (pa_cons' (pv' 2) (pa_cons' (pe_ix' (pv' 1) (pe_int')) (pa_cons' (pv' 3) (pa_nil'))))) (pe_bl')))
  (pss_one' (ps_if' (pt_not' (pt_tru' (pv' 6))) (pss_one' (ps_ret' (pe_ifExp' (pt_cmp' od_is op_isN (pv' 6) (pe_non') (nomark _)) (pe_tup' (pa_cons' (pe_non') (pa_cons' (pe_bl') (pa_nil')))) (pe_tup' (pa_cons' (pv' 3) (pa_cons' (pe_bl') (pa_nil'))))))) (pss_nil')))) (pss_nil'))
  (pss_one' (ps_ret' (pe_call' G__law_first (hr.mono (by decide)) (by rfl) (pa_cons' (pv' 1) (pa_cons' (pv' 3) (pa_cons' (pv' 2) (pa_nil')))))))))))) (rd_law_go cl)
def ps__law_deed : List Str := ["word", "many", "answers"]
def N__law_deed : List Str := ["word", "many", "answers", "row", "log", "given", "is_done"]
theorem sc__law_deed : FnScope N__law_deed ps__law_deed (defScope s__law_deed) := ⟨rfl, rfl, rfl, by decide +kernel, rfl, by decide +kernel, by decide +kernel⟩
theorem ok__law_deed (B : Bl K mg cl) (G__law_go : Fnd P w K mg base "_law_go" 3 [] (C__law_go cl) 5) {f : Addr} {fd : FuncData} (F : FunD K "_law_deed" "_law_deed" (defArgs s__law_deed) (defBody s__law_deed) (defScope s__law_deed) [] [] f fd) : FnOk P w K mg base CX0 6 f fd ps__law_deed (liftC K (C__law_deed cl)) :=
  fnOkS (t := t__law_deed cl) F sc__law_deed (fun ds F R Φ h => by obtain ⟨_, _, _, _, e, _⟩ := h; subst e; rfl) (fun cdv A outer s H E hr => pss_cons' (ps_par' (i := 3) (j := 4) rfl sc__law_deed.nd (by decide) (pa_cons' (pe_listRg1' rfl (by rfl) B.n_list (by rfl) B.n_range (pv' 1)) (pa_cons' (pe_lst' (pa_cons' (pv' 2) (pa_cons' (pe_lst' (pa_nil')) (pa_nil')))) (pa_nil'))))
  (pss_cons' (ps_asg' (pe_call' G__law_go (hr.mono (by decide)) (by rfl) (pa_cons' (pv' 0) (pa_cons' (pv' 3) (pa_cons' (pv' 4) (pa_nil'))))) (pg_tup' rfl (pgs_cons' (pg_name' (i := 5) sc__law_deed.nd) (pgs_cons' (pg_name' (i := 6) sc__law_deed.nd) (pgs_nil')))))
  (pss_cons' (ps_if' (pt_tru' (pv' 6)) (pss_one' (ps_ret' (pe_tup' (pa_cons' (pv' 3) (pa_cons' (pv' 5) (pa_cons' (pe_non') (pa_cons' (pe_ix' (pv' 4) (pe_int')) (pa_nil')))))))) (pss_nil'))
  (pss_one' (ps_ret' (pe_tup' (pa_cons' (pv' 3) (pa_cons' (pe_non') (pa_cons' (pe_ix' (pe_ix' (pv' 4) (pe_int')) (pe_neg' (pe_int'))) (pa_cons' (pe_slice' (pe_ix' (pv' 4) (pe_int')) (po_none') (po_some' (pe_neg' (pe_int')))) (pa_nil'))))))))))) (rd_law_deed cl)
def ps__law_draw : List Str := ["well", "many"]
def N__law_draw : List Str := ["well", "many", "number", "digit"]
theorem sc__law_draw : FnScope N__law_draw ps__law_draw (defScope s__law_draw) := ⟨rfl, rfl, rfl, by decide +kernel, rfl, by decide +kernel, by decide +kernel⟩
theorem ok__law_draw (B : Bl K mg cl)  {f : Addr} {fd : FuncData} (F : FunD K "_law_draw" "_law_draw" (defArgs s__law_draw) (defBody s__law_draw) (defScope s__law_draw) [] [] f fd) : FnOk P w K mg base CX0 1 f fd ps__law_draw (liftC K (C__law_draw cl)) :=
  fnOkS (t := t__law_draw cl) F sc__law_draw (fun ds F R Φ h => by obtain ⟨_, _, _, _, _, _, e, _⟩ := h; subst e; rfl) (fun cdv A outer s H E hr => pss_cons' (ps_if' (pt_cmp' od_gt op_gt (pe_ix' (pv' 0) (pe_int')) (pe_int') (nomark _)) (pss_cons' (ps_set' (i := 3) sc__law_draw.nd (pe_op' od_mod op_mod (pe_callTy' cd_int call_int1 (by rfl) B.n_int (by decide +kernel) (pa_cons' (pe_ix' (pv' 0) (pe_int')) (pa_nil'))) (pv' 1)))
  (pss_cons' (ps_asg' (pe_op' od_fdiv op_fdivW (pe_ix' (pv' 0) (pe_int')) (pv' 1)) (pg_sub' (pv' 0) (pe_int')))
  (pss_one' (ps_ret' (pv' 3))))) (pss_nil'))
  (pss_cons' (ps_asg' (pe_op' od_add op_addA (pe_ix' (pv' 0) (pe_int')) (pe_int')) (pg_sub' (pv' 0) (pe_int')))
  (pss_cons' (ps_set' (i := 2) sc__law_draw.nd (pe_op' od_mod op_mod (pe_callTy' cd_int call_int1 (by rfl) B.n_int (by decide +kernel) (pa_cons' (pe_op' od_pow op_pow (pe_op' od_add op_addA (pe_op' od_add op_addA (pe_ix' (pv' 0) (pe_int')) (pe_op' od_mul op_mulA (pe_int') (pe_ix' (pv' 0) (pe_int')))) (pe_int')) (pe_int')) (pa_nil'))) (pe_int')))
  (pss_cons' (ps_set' (i := 2) sc__law_draw.nd (pe_op' od_mod op_mod (pe_callTy' cd_int call_int1 (by rfl) B.n_int (by decide +kernel) (pa_cons' (pe_op' od_mul op_mulA (pe_op' od_add op_addA (pv' 2) (pe_ix' (pv' 0) (pe_int'))) (pe_op' od_add op_addA (pe_op' od_fdiv op_fdivW (pv' 2) (pe_int')) (pe_int'))) (pa_nil'))) (pe_int')))
  (pss_one' (ps_ret' (pe_op' od_mod op_mod (pe_callTy' cd_int call_int1 (by rfl) B.n_int (by decide +kernel) (pa_cons' (pe_op' od_mod op_mod (pe_callTy' cd_int call_int1 (by rfl) B.n_int (by decide +kernel) (pa_cons' (pe_op' od_mul op_mulA (pv' 2) (pe_op' od_add op_addA (pe_op' od_fdiv op_fdivW (pv' 2) (pe_int')) (pe_int'))) (pa_nil'))) (pe_int')) (pa_nil'))) (pv' 1)))))))) (rd_law_draw cl)
def ps__law_right : List Str := ["well", "word", "many"]
def N__law_right : List Str := ["well", "word", "many", "side", "answers", "due", "found", "turn"]
theorem sc__law_right : FnScope N__law_right ps__law_right (defScope s__law_right) := ⟨rfl, rfl, rfl, by decide +kernel, rfl, by decide +kernel, by decide +kernel⟩
theorem ok__law_right (B : Bl K mg cl) (G__law_items_right : Fnd P w K mg base "_law_items_right" 3 [] (C__law_items_right cl) 1) (G_deed_told : FndX P w K mg base cl.xa "deed_told" 3 [] (C_deed_told cl) 8) (G__law_deed : Fnd P w K mg base "_law_deed" 3 [] (C__law_deed cl) 6) (G__law_draw : Fnd P w K mg base "_law_draw" 2 [] (C__law_draw cl) 1) (Gv__law_word : GvD P w K mg base cl.xa "_law_word" 2 (t__law_word cl)) (TL__law_right : LamT K mg base ("_law_right", none) (cl.tb ("_law_right", none))) {fd : FuncData} (F : FunD K "_law_right" "_law_right" (defArgs s__law_right) (defBody s__law_right) (defScope s__law_right) [] [] (He.fAd K ("_law_right", none)) fd) : FnOk P w K mg base CX0 11 (He.fAd K ("_law_right", none)) fd ps__law_right (liftC K (C__law_right88 cl)) :=
  fnOkSL (t := t__law_right88 cl) F sc__law_right (fun ds F R Φ h => by obtain ⟨_, _, _, _, _, _, _, e, _⟩ := h; subst e; rfl) (fun A outer s H E hr => pss_cons' (ps_set' (i := 3) sc__law_right.nd (pe_call' G__law_draw (hr.mono (by decide)) (by rfl) (pa_cons' (pv' 0) (pa_cons' (pe_int') (pa_nil')))))
  (pss_cons' (ps_set' (i := 4) sc__law_right.nd (pe_lc' (own := [("turn", 7)]) (g := gName 7) (g' := gName' 7) rfl sc__law_right.nd (pi_range1' (by rfl) B.n_range (pa_cons' (pe_call' G__law_draw (hr.mono (by decide)) (by rfl) (pa_cons' (pv' 0) (pa_cons' (pe_op' od_add op_addA (pe_op' od_mul op_mulA (pe_int') (pv' 2)) (pe_int')) (pa_nil')))) (pa_nil'))) (blkOk_by (own := [("turn", 7)]) (N := N__law_right) (sc := defScope s__law_right) (by decide +kernel)) (own_name (by decide)) (fun _ _ _ _ _ => pg_name (i := 7) sc__law_right.nd rfl (Or.inl rfl)) (fun _ _ _ _ _ => pts_nil') (fun _ _ _ _ _ => pe_or' (pe_cmp' od_eq (op_eqA hr.units) (pv' 3) (pe_int') (nomark _)) (pe_one' (pe_and' (pe_cmp' od_gt op_gt (pv' 3) (pe_int') (nomark _)) (pe_one' (pe_cmp' od_eq (op_eqA hr.units) (pe_call' G__law_draw (hr.mono (by decide)) (by rfl) (pa_cons' (pv' 0) (pa_cons' (pe_int') (pa_nil')))) (pe_int') (nomark _))))))))
  (pss_cons' (ps_set' (i := 5) sc__law_right.nd (pe_call' G__law_deed (hr.mono (by decide)) (by rfl) (pa_cons' (pv' 1) (pa_cons' (pv' 2) (pa_cons' (pv' 4) (pa_nil'))))))
  (pss_cons' (ps_if' (PW'.pt (pw_and' (pt_cmp' od_is op_isN (pe_ix' (pv' 5) (pe_int')) (pe_non') (nomark _)) (pw_and1' (pt_cmp' od_lt op_lt (pe_callB' cd_len call_len (by rfl) B.n_len PySem.boot_len (pa_cons' (pe_ix' (pv' 5) (pe_int')) (pa_nil'))) (pe_callB' cd_len call_len (by rfl) B.n_len PySem.boot_len (pa_cons' (pv' 4) (pa_nil'))) (nomark _))))) (pss_cons' (ps_if' (pt_cmp' od_ne (op_neA hr.units) (pe_lam' (k := 8) (tl := fun V1 => tCallX' V1 (C_deed_told cl) [] (tCons' (tVar' 1) (tCons' (tVar' 2) (tCons' (tVar' 4) (tNil'))))) Gv__law_word (by rfl) TL__law_right.tb rfl TL__law_right.in_ TL__law_right.un (hr.mono (by decide)) (LamX.lamS_by (sc := defScope s__law_right) (by decide +kernel)) (by rfl) (fun _ _ _ _ _ => rfl) (fun V1 A1 outer1 s1 H1 E1 f1 c1 hr tv1 => pe_callX' G_deed_told tv1 (hr.mono (by decide)) (by rfl) (pa_cons' (pv' 1) (pa_cons' (pv' 2) (pa_cons' (pv' 4) (pa_nil')))))) (pe_tup' (pa_cons' (pe_str') (pa_cons' (pe_callB' cd_len call_len (by rfl) B.n_len PySem.boot_len (pa_cons' (pe_ix' (pv' 5) (pe_int')) (pa_nil'))) (pa_nil')))) (nomark _)) (pss_one' (ps_ret' (pe_bl'))) (pss_nil'))
  (pss_one' (ps_set' (i := 4) sc__law_right.nd (pe_slice' (pv' 4) (po_none') (po_some' (pe_callB' cd_len call_len (by rfl) B.n_len PySem.boot_len (pa_cons' (pe_ix' (pv' 5) (pe_int')) (pa_nil')))))))) (pss_nil'))
  (pss_wk' (t := t__law_right88_s4 cl) (pss_cons' (ps_set' (i := 6) sc__law_right.nd (pe_callX' G_deed_told takes_no (hr.mono (by decide)) (by rfl) (pa_cons' (pv' 1) (pa_cons' (pv' 2) (pa_cons' (pe_callTy' cd_tuple call_tuple_of (by rfl) B.n_tuple (by decide +kernel) (pa_cons' (pv' 4) (pa_nil'))) (pa_nil'))))))
  (pss_cons' (ps_if' (PW'.pt (pw_or' (pt_cmp' od_ne (op_neA hr.units) (pv' 6) (pv' 5) (nomark _)) (pw_or' (pt_not' (pt_tru' (pe_isi' (by rfl) B.n_isinstance (by rfl) B.n_tuple (by decide +kernel) (pv' 6)))) (pw_or1' (pt_cmp' od_ne (op_neA hr.units) (pe_callX' G_deed_told takes_no (hr.mono (by decide)) (by rfl) (pa_cons' (pv' 1) (pa_cons' (pv' 2) (pa_cons' (pv' 4) (pa_nil'))))) (pv' 5) (nomark _)))))) (pss_one' (ps_ret' (pe_bl'))) (pss_nil'))
  (pss_one' (ps_ret' (pe_call' G__law_items_right (hr.mono (by decide)) (by rfl) (pa_cons' (pv' 1) (pa_cons' (pv' 2) (pa_cons' (pv' 6) (pa_nil')))))))))))))) (rd_law_right88 cl)
def ps_require_keys : List Str := ["keys", "most"]
def N_require_keys : List Str := ["keys", "most", "index", "key"]
theorem sc_require_keys : FnScope N_require_keys ps_require_keys (defScope s_require_keys) := ⟨rfl, rfl, rfl, by decide +kernel, rfl, by decide +kernel, by decide +kernel⟩
theorem ok_require_keys (B : Bl K mg cl) (G_is_integer : Fnd P w K mg base "is_integer" 1 [] (C_is_integer cl) 1) {f : Addr} {fd : FuncData} (F : FunD K "require_keys" "require_keys" (defArgs s_require_keys) (defBody s_require_keys) (defScope s_require_keys) [.int 2000] [] f fd) : FnOk P w K mg base CX0 2 f fd ps_require_keys (liftC K (C_require_keys cl)) :=
  fnOkS (t := t_require_keys cl) F sc_require_keys (fun ds F R Φ h => by obtain ⟨_, _, _, e, _⟩ := h; subst e; rfl) (fun cdv A outer s H E hr => pss_cons' (ps_if' (PW'.pt (pw_or' (pt_not' (pt_tru' (pe_isi2' (by rfl) B.n_isinstance (by rfl) B.n_list (by decide +kernel) (by rfl) B.n_tuple (by decide +kernel) (pv' 0)))) (pw_or1' (pt_cmp' od_gt op_gt (pe_callB' cd_len call_len (by rfl) B.n_len PySem.boot_len (pa_cons' (pv' 0) (pa_nil'))) (pv' 1) (nomark _))))) (pss_one' (ps_never')) (pss_nil'))
  (pss_one' (ps_for' PassesOwn.never rfl (pi_enumA' (by rfl) B.n_enumerate (pa_cons' (pv' 0) (pa_nil'))) (pg_tup' rfl (pgs_cons' (pg_name' (i := 2) sc_require_keys.nd) (pgs_cons' (pg_name' (i := 3) sc_require_keys.nd) (pgs_nil')))) (pss_one' (ps_if' (pt_not' (pt_tru' (pe_call' G_is_integer (hr.mono (by decide)) (by rfl) (pa_cons' (pv' 3) (pa_nil'))))) (pss_one' (ps_never')) (pss_nil')))))) (rd_require_keys cl)
def ps_Honest___init__ : List Str := ["self", "keys"]
def N_Honest___init__ : List Str := ["self", "keys"]
theorem sc_Honest___init__ : FnScope N_Honest___init__ ps_Honest___init__ (defScope s_Honest___init__) := ⟨rfl, rfl, rfl, by decide +kernel, rfl, by decide +kernel, by decide +kernel⟩
theorem ok_Honest___init__ (B : Bl K mg cl)  {f : Addr} {fd : FuncData} (F : FunD K "__init__" "Honest.__init__" (defArgs s_Honest___init__) (defBody s_Honest___init__) (defScope s_Honest___init__) [] [] f fd) : FnOk P w K mg base CX0 1 f fd ps_Honest___init__ (liftC K (C_Honest___init__ cl)) :=
  fnOkS (t := t_Honest___init__ cl) F sc_Honest___init__ (fun ds F R Φ h => by obtain ⟨_, _, _, _, e, _⟩ := h; subst e; rfl) (fun cdv A outer s H E hr => pss_one' (ps_asg' (pe_tup' (pa_cons' (pe_callTy' cd_list call_list_of (by rfl) B.n_list (by decide +kernel) (pa_cons' (pv' 1) (pa_nil'))) (pa_cons' (pe_lst' (pa_nil')) (pa_nil')))) (pg_tup' rfl (pgs_cons' (pg_fld' (f := 0) B.c_Honest B.na_Honest_marks (pv' 0)) (pgs_cons' (pg_fld' (f := 1) B.c_Honest B.na_Honest_log (pv' 0)) (pgs_nil')))))) (rd_Honest_init cl)
def ps_deed_done : List Str := ["deed", "keys", "key"]
def N_deed_done : List Str := ["deed", "keys", "key", "given", "row", "asker", "question", "answer"]
theorem sc_deed_done : FnScope N_deed_done ps_deed_done (defScope s_deed_done) := ⟨rfl, rfl, rfl, by decide +kernel, rfl, by decide +kernel, by decide +kernel⟩
theorem ok_deed_done (B : Bl K mg cl) (G_do_deed : FndX P w K mg base cl.xa "do_deed" 3 [] (C_do_deed cl) 7) (G_require_filled : Fnd P w K mg base "require_filled" 2 [] (C_require_filled cl) 1) (G_is_integer : Fnd P w K mg base "is_integer" 1 [] (C_is_integer cl) 1) (G_require_keys : Fnd P w K mg base "require_keys" 2 [] (C_require_keys cl) 2) (G_require_deed : Fnd P w K mg base "require_deed" 1 [] (C_require_deed cl) 1) (G_Honest : Mkd P w K mg base "Honest" cl.Honest [] (C_Honest___init__ cl) 1) {f : Addr} {fd : FuncData} (F : FunD K "deed_done" "deed_done" (defArgs s_deed_done) (defBody s_deed_done) (defScope s_deed_done) [.non] [] f fd) : FnOk P w K mg base CX0 8 f fd ps_deed_done (liftC K (C_deed_done cl)) :=
  fnOkS (t := t_deed_done cl) F sc_deed_done (fun ds F R Φ h => by obtain ⟨_, _, _, _, e, _⟩ := h; subst e; rfl) (fun cdv A outer s H E hr => pss_cons' (ps_expr' (pe_call' G_require_deed (hr.mono (by decide)) (by rfl) (pa_cons' (pv' 0) (pa_nil'))))
  (pss_cons' (ps_expr' (pe_call' G_require_keys (hr.mono (by decide)) (by rfl) (pa_cons' (pv' 1) (pa_cons' (pe_gint (by rfl) B.i_MAX_HEAP) (pa_nil')))))
  (pss_cons' (ps_if' (pt_ifExp' (pt_cmp' od_in op_in_seq (pv' 0) (pe_gtup (by rfl) B.g_BARE B.ts_BARE (fun _ => by repeat constructor)) (by with_unfolding_all rfl)) (pt_cmp' od_isnot op_notN (pv' 2) (pe_non') (nomark _)) (pt_not' (pt_tru' (pe_call' G_is_integer (hr.mono (by decide)) (by rfl) (pa_cons' (pv' 2) (pa_nil')))))) (pss_one' (ps_never')) (pss_nil'))
  (pss_cons' (ps_expr' (pe_call' G_require_filled (hr.mono (by decide)) (by rfl) (pa_cons' (pv' 0) (pa_cons' (pe_callB' cd_len call_len (by rfl) B.n_len PySem.boot_len (pa_cons' (pv' 1) (pa_nil'))) (pa_nil')))))
  (pss_cons' (ps_par' (i := 4) (j := 5) rfl sc_deed_done.nd (by decide) (pa_cons' (pe_listRg1' rfl (by rfl) B.n_list (by rfl) B.n_range (pe_callB' cd_len call_len (by rfl) B.n_len PySem.boot_len (pa_cons' (pv' 1) (pa_nil')))) (pa_cons' (pe_make' G_Honest (no_Honest cl) (hr.mono (by decide)) (by rfl) (pa_cons' (pe_op' od_add op_addA (pe_callTy' cd_list call_list_of (by rfl) B.n_list (by decide +kernel) (pa_cons' (pv' 1) (pa_nil'))) (pe_lst' (pa_cons' (pv' 2) (pa_nil')))) (pa_nil'))) (pa_nil'))))
  (pss_cons' (ps_set' (i := 3) sc_deed_done.nd (pe_callX' G_do_deed takes_no (hr.mono (by decide)) (by rfl) (pa_cons' (pv' 0) (pa_cons' (pv' 4) (pa_cons' (pv' 5) (pa_nil'))))))
  (pss_one' (ps_ret' (pe_tup' (pa_cons' (pv' 4) (pa_cons' (pv' 3) (pa_cons' (pe_lc' (own := [("question", 6), ("answer", 7)]) (g := gTup K 2 (gCons (gName 6) (gCons (gName 7) (gNil)))) (g' := gTup' 2 (gCons' (gName' 6) (gCons' (gName' 7) (gNil')))) rfl sc_deed_done.nd (pi_seq' (pe_fld' (f := 1) B.c_Honest B.na_Honest_log (pv' 5))) (blkOk_by (own := [("question", 6), ("answer", 7)]) (N := N_deed_done) (sc := defScope s_deed_done) (by decide +kernel)) (own_tup (own_cons (own_name (by decide)) (own_cons (own_name (by decide)) (own_nil)))) (fun _ _ _ _ _ => pg_tup rfl (pgs_cons (pg_name (i := 6) sc_deed_done.nd rfl (Or.inl rfl)) (pgs_cons (pg_name (i := 7) sc_deed_done.nd rfl (Or.inl rfl)) (pgs_nil)))) (fun _ _ _ _ _ => pts_nil') (fun _ _ _ _ _ => pv' 6)) (pa_nil'))))))))))))) (rd_deed_done cl)
def ps__law_honest : List Str := ["word", "marks"]
def N__law_honest : List Str := ["word", "marks", "turn", "many", "answers", "row", "given", "question", "log"]
theorem sc__law_honest : FnScope N__law_honest ps__law_honest (defScope s__law_honest) := ⟨rfl, rfl, rfl, by decide +kernel, rfl, by decide +kernel, by decide +kernel⟩
theorem ok__law_honest (B : Bl K mg cl) (G__law_deed : Fnd P w K mg base "_law_deed" 3 [] (C__law_deed cl) 6) {f : Addr} {fd : FuncData} (F : FunD K "_law_honest" "_law_honest" (defArgs s__law_honest) (defBody s__law_honest) (defScope s__law_honest) [] [] f fd) : FnOk P w K mg base CX0 7 f fd ps__law_honest (liftC K (C__law_honest cl)) :=
  fnOkS (t := t__law_honest cl) F sc__law_honest (fun ds F R Φ h => by obtain ⟨_, _, _, _, e, _⟩ := h; subst e; rfl) (fun cdv A outer s H E hr => pss_cons' (ps_par' (i := 3) (j := 4) rfl sc__law_honest.nd (by decide) (pa_cons' (pe_op' od_sub op_sub (pe_callB' cd_len call_len (by rfl) B.n_len PySem.boot_len (pa_cons' (pv' 1) (pa_nil'))) (pe_callTy' cd_int call_int1 (by rfl) B.n_int (by decide +kernel) (pa_cons' (pe_cmp' od_in op_in_seq (pv' 0) (pe_tup' (pa_cons' (pe_str') (pa_cons' (pe_str') (pa_cons' (pe_str') (pa_nil'))))) (by with_unfolding_all rfl)) (pa_nil')))) (pa_cons' (pe_lst' (pa_nil')) (pa_nil'))))
  (pss_cons' (ps_for' PassesOwn.never rfl (pi_range1' (by rfl) B.n_range (pa_cons' (pe_op' od_add op_addA (pe_op' od_mul op_mulA (pe_int') (pe_callB' cd_len call_len (by rfl) B.n_len PySem.boot_len (pa_cons' (pv' 1) (pa_nil')))) (pe_int')) (pa_nil'))) (pg_name' (i := 2) sc__law_honest.nd) (pss_cons' (ps_asg' (pe_call' G__law_deed (hr.mono (by decide)) (by rfl) (pa_cons' (pv' 0) (pa_cons' (pv' 3) (pa_cons' (pv' 4) (pa_nil'))))) (pg_tup' rfl (pgs_cons' (pg_name' (i := 5) sc__law_honest.nd) (pgs_cons' (pg_name' (i := 6) sc__law_honest.nd) (pgs_cons' (pg_name' (i := 7) sc__law_honest.nd) (pgs_cons' (pg_name' (i := 8) sc__law_honest.nd) (pgs_nil')))))))
  (pss_cons' (ps_if' (pt_cmp' od_is op_isN (pv' 7) (pe_non') (nomark _)) (pss_one' (ps_ret' (pe_tup' (pa_cons' (pv' 5) (pa_cons' (pv' 6) (pa_cons' (pv' 8) (pa_nil'))))))) (pss_nil'))
  (pss_one' (ps_expr' (pe_lm' md_append PySem.F.slot_list_append PySem.F.type_list_append mt_append (pv' 4) (pa_cons' (pe_cmp' od_lt op_lt (pe_ix' (pv' 1) (pe_ix' (pv' 7) (pe_int'))) (pe_ix' (pv' 1) (pe_ix' (pv' 7) (pe_int'))) (nomark _)) (pa_nil'))))))))
  (pss_one' (ps_ret' (pe_tup' (pa_cons' (pe_lst' (pa_nil')) (pa_cons' (pe_non') (pa_cons' (pe_lst' (pa_nil')) (pa_nil'))))))))) (rd_law_honest cl)
def ps__law_honest_right : List Str := ["well", "word", "many"]
def N__law_honest_right : List Str := ["well", "word", "many", "marks", "answers", "mark", "order", "given", "log", "item", "one", "other"]
theorem sc__law_honest_right : FnScope N__law_honest_right ps__law_honest_right (defScope s__law_honest_right) := ⟨rfl, rfl, rfl, by decide +kernel, rfl, by decide +kernel, by decide +kernel⟩
theorem ok__law_honest_right (B : Bl K mg cl) (G_deed_told : FndX P w K mg base cl.xa "deed_told" 3 [] (C_deed_told cl) 8) (G_deed_done : Fnd P w K mg base "deed_done" 3 [] (C_deed_done cl) 8) (G__law_honest : Fnd P w K mg base "_law_honest" 2 [] (C__law_honest cl) 7) (G__law_draw : Fnd P w K mg base "_law_draw" 2 [] (C__law_draw cl) 1) {f : Addr} {fd : FuncData} (F : FunD K "_law_honest_right" "_law_honest_right" (defArgs s__law_honest_right) (defBody s__law_honest_right) (defScope s__law_honest_right) [] [] f fd) : FnOk P w K mg base CX0 9 f fd ps__law_honest_right (liftC K (C__law_honest_right cl)) :=
  fnOkS (t := t__law_honest_right cl) F sc__law_honest_right (fun ds F R Φ h => by obtain ⟨_, _, _, _, _, _, _, e, _⟩ := h; subst e; rfl) (fun cdv A outer s H E hr => pss_cons' (ps_set' (i := 3) sc__law_honest_right.nd (pe_lc' (own := [("item", 9)]) (g := gName 9) (g' := gName' 9) rfl sc__law_honest_right.nd (pi_range1' (by rfl) B.n_range (pa_cons' (pe_op' od_add op_addA (pv' 2) (pe_callTy' cd_int call_int1 (by rfl) B.n_int (by decide +kernel) (pa_cons' (pe_cmp' od_in op_in_seq (pv' 1) (pe_tup' (pa_cons' (pe_str') (pa_cons' (pe_str') (pa_cons' (pe_str') (pa_nil'))))) (by with_unfolding_all rfl)) (pa_nil')))) (pa_nil'))) (blkOk_by (own := [("item", 9)]) (N := N__law_honest_right) (sc := defScope s__law_honest_right) (by decide +kernel)) (own_name (by decide)) (fun _ _ _ _ _ => pg_name (i := 9) sc__law_honest_right.nd rfl (Or.inl rfl)) (fun _ _ _ _ _ => pts_nil') (fun _ _ _ _ _ => pe_call' G__law_draw (hr.mono (by decide)) (by rfl) (pa_cons' (pv' 0) (pa_cons' (pe_int') (pa_nil'))))))
  (pss_cons' (ps_asg' (pe_call' G__law_honest (hr.mono (by decide)) (by rfl) (pa_cons' (pv' 1) (pa_cons' (pv' 3) (pa_nil')))) (pg_tup' rfl (pgs_cons' (pg_name' (i := 6) sc__law_honest_right.nd) (pgs_cons' (pg_name' (i := 7) sc__law_honest_right.nd) (pgs_cons' (pg_name' (i := 8) sc__law_honest_right.nd) (pgs_nil'))))))
  (pss_cons' (ps_setLc' (i := 4) (own := [("one", 10), ("other", 11)]) (g := gTup K 2 (gCons (gName 10) (gCons (gName 11) (gNil)))) (g' := gTup' 2 (gCons' (gName' 10) (gCons' (gName' 11) (gNil')))) rfl sc__law_honest_right.nd (pi_seq' (pv' 8)) (blkOk_by (own := [("one", 10), ("other", 11)]) (N := N__law_honest_right) (sc := defScope s__law_honest_right) (by decide +kernel)) (own_tup (own_cons (own_name (by decide)) (own_cons (own_name (by decide)) (own_nil)))) (fun _ _ _ _ _ => pg_tup rfl (pgs_cons (pg_name (i := 10) sc__law_honest_right.nd rfl (Or.inl rfl)) (pgs_cons (pg_name (i := 11) sc__law_honest_right.nd rfl (Or.inl rfl)) (pgs_nil)))) (fun _ _ _ _ _ => pts_nil') (fun _ _ _ _ _ => pe_cmp' od_lt op_lt (pe_ix' (pv' 3) (pv' 10)) (pe_ix' (pv' 3) (pv' 11)) (nomark _)))
  (pss_cons' (ps_set' (i := 5) sc__law_honest_right.nd (pe_ifExp' (pt_cmp' od_gt op_gt (pe_callB' cd_len call_len (by rfl) B.n_len PySem.boot_len (pa_cons' (pv' 3) (pa_nil'))) (pv' 2) (nomark _)) (pe_ix' (pv' 3) (pe_neg' (pe_int'))) (pe_non')))
  (pss_wk' (t := t__law_honest_right_s4 cl) (pss_one' (ps_ret' (pe_and' (pe_cmp' od_eq (op_eqA hr.units) (pe_callX' G_deed_told takes_no (hr.mono (by decide)) (by rfl) (pa_cons' (pv' 1) (pa_cons' (pv' 2) (pa_cons' (pv' 4) (pa_nil'))))) (pe_tup' (pa_cons' (pv' 6) (pa_cons' (pv' 7) (pa_cons' (pe_non') (pa_cons' (pv' 8) (pa_nil')))))) (nomark _)) (pe_one' (pe_cmp' od_eq (op_eqA hr.units) (pe_ix' (pe_call' G_deed_done (hr.mono (by decide)) (by rfl) (pa_cons' (pv' 1) (pa_cons' (pe_slice' (pv' 3) (po_none') (po_some' (pv' 2))) (pa_cons' (pv' 5) (pa_nil'))))) (pe_int')) (pv' 8) (nomark _))))))))))) (rd_law_honest_right cl)
def ps__law_pick : List Str := ["well", "some"]
def N__law_pick : List Str := ["well", "some"]
theorem sc__law_pick : FnScope N__law_pick ps__law_pick (defScope s__law_pick) := ⟨rfl, rfl, rfl, by decide +kernel, rfl, by decide +kernel, by decide +kernel⟩
theorem ok__law_pick (B : Bl K mg cl) (G__law_draw : Fnd P w K mg base "_law_draw" 2 [] (C__law_draw cl) 1) {f : Addr} {fd : FuncData} (F : FunD K "_law_pick" "_law_pick" (defArgs s__law_pick) (defBody s__law_pick) (defScope s__law_pick) [] [] f fd) : FnOk P w K mg base CX0 2 f fd ps__law_pick (liftC K (C__law_pick cl)) :=
  fnOkS (t := t__law_pick cl) F sc__law_pick (fun ds F R Φ h => by obtain ⟨_, _, _, _, _, _, _, e, _⟩ := h; subst e; rfl) (fun cdv A outer s H E hr => pss_one' (ps_ret' (pe_ix' (pv' 1) (pe_call' G__law_draw (hr.mono (by decide)) (by rfl) (pa_cons' (pv' 0) (pa_cons' (pe_callB' cd_len call_len (by rfl) B.n_len PySem.boot_len (pa_cons' (pv' 1) (pa_nil'))) (pa_nil'))))))) (rd_law_pick cl)
def ps__law_well : List Str := ["cell"]
def N__law_well : List Str := ["cell"]
theorem sc__law_well : FnScope N__law_well ps__law_well (defScope s__law_well) := ⟨rfl, rfl, rfl, by decide +kernel, rfl, by decide +kernel, by decide +kernel⟩
theorem ok__law_well (B : Bl K mg cl)  {f : Addr} {fd : FuncData} (F : FunD K "_law_well" "_law_well" (defArgs s__law_well) (defBody s__law_well) (defScope s__law_well) [] [] f fd) : FnOk P w K mg base CX0 1 f fd ps__law_well (liftC K (C__law_well cl)) :=
  fnOkS (t := t__law_well cl) F sc__law_well (fun ds F R Φ h => by obtain ⟨_, e, _⟩ := h; subst e; rfl) (fun cdv A outer s H E hr => pss_one' (ps_ret' (pe_lst' (pa_cons' (pe_op' od_mul op_mulA (pe_callB' cd_abs call_abs (by rfl) B.n_abs boot_abs (pa_cons' (pv' 0) (pa_nil'))) (pe_callTy' cd_int call_int1 (by rfl) B.n_int (by decide +kernel) (pa_cons' (pe_cmp' od_ge op_ge (pe_callB' cd_abs call_abs (by rfl) B.n_abs boot_abs (pa_cons' (pv' 0) (pa_nil'))) (pe_op' od_pow op_pow (pe_int') (pe_int')) (nomark _)) (pa_nil')))) (pa_cons' (pe_op' od_mod op_mod (pe_callTy' cd_int call_int1 (by rfl) B.n_int (by decide +kernel) (pa_cons' (pv' 0) (pa_nil'))) (pe_int')) (pa_cons' (pe_int') (pa_nil'))))))) (rd_law_well cl)
def ps_law : List Str := ["script"]
def N_law : List Str := ["script", "at", "cell", "well", "word", "many"]
theorem sc_law : FnScope N_law ps_law (defScope s_law) := ⟨rfl, rfl, rfl, by decide +kernel, rfl, by decide +kernel, by decide +kernel⟩
theorem ok_law (B : Bl K mg cl) (G__law_words : Fnd P w K mg base "_law_words" 0 [] (C__law_words cl) 1) (G__law_right : Fnd P w K mg base "_law_right" 3 [] (C__law_right88 cl) 11) (G__law_honest_right : Fnd P w K mg base "_law_honest_right" 3 [] (C__law_honest_right cl) 9) (G__law_pick : Fnd P w K mg base "_law_pick" 2 [] (C__law_pick cl) 2) (G__law_draw : Fnd P w K mg base "_law_draw" 2 [] (C__law_draw cl) 1) (G__law_well : Fnd P w K mg base "_law_well" 1 [] (C__law_well cl) 1) {f : Addr} {fd : FuncData} (F : FunD K "law" "law" (defArgs s_law) (defBody s_law) (defScope s_law) [] [] f fd) : FnOk P w K mg base CX0 12 f fd ps_law (liftC K (C_law88 cl)) :=
  fnOkS (t := t_law88 cl) F sc_law (fun ds F R Φ h => by obtain ⟨_, _, e, _⟩ := h; subst e; rfl) (fun cdv A outer s H E hr => pss_cons' (ps_for' PassesOwn.never rfl (pi_enumA' (by rfl) B.n_enumerate (pa_cons' (pe_op' od_add op_addA (pe_slice' (pv' 0) (po_none') (po_some' (pe_int'))) (pe_lst' (pa_cons' (pe_int') (pa_cons' (pe_int') (pa_nil'))))) (pa_nil'))) (pg_tup' rfl (pgs_cons' (pg_name' (i := 1) sc_law.nd) (pgs_cons' (pg_name' (i := 2) sc_law.nd) (pgs_nil')))) (pss_cons' (ps_set' (i := 3) sc_law.nd (pe_call' G__law_well (hr.mono (by decide)) (by rfl) (pa_cons' (pv' 2) (pa_nil'))))
  (pss_cons' (ps_if' (pt_cmp' od_lt op_lt (pv' 1) (pe_int') (nomark _)) (pss_cons' (ps_set' (i := 4) sc_law.nd (pe_ix' (pe_call0' G__law_words (hr.mono (by decide)) (by rfl)) (pe_op' od_mul op_mulA (pv' 1) (pe_op' od_add op_addA (pe_int') (pe_call' G__law_draw (hr.mono (by decide)) (by rfl) (pa_cons' (pv' 3) (pa_cons' (pe_int') (pa_nil'))))))))
  (pss_one' (ps_if' (pt_not' (pt_tru' (pe_call' G__law_right (hr.mono (by decide)) (by rfl) (pa_cons' (pv' 3) (pa_cons' (pv' 4) (pa_cons' (pe_op' od_add op_addA (pe_int') (pe_call' G__law_draw (hr.mono (by decide)) (by rfl) (pa_cons' (pv' 3) (pa_cons' (pe_int') (pa_nil'))))) (pa_nil'))))))) (pss_one' (ps_ret' (pe_bl'))) (pss_nil')))) (pss_nil'))
  (pss_wk' (t := t_law88_s0_2 cl) (pss_one' (ps_for' PassesOwn.never rfl (pi_seq' (pe_call0' G__law_words (hr.mono (by decide)) (by rfl))) (pg_name' (i := 4) sc_law.nd) (pss_cons' (ps_set' (i := 5) sc_law.nd (pe_call' G__law_pick (hr.mono (by decide)) (by rfl) (pa_cons' (pv' 3) (pa_cons' (pe_lst' (pa_cons' (pe_int') (pa_cons' (pe_int') (pa_cons' (pe_int') (pa_cons' (pe_int') (pa_cons' (pe_int') (pa_cons' (pe_int') (pa_cons' (pe_int') (pa_cons' (pe_call' G__law_draw (hr.mono (by decide)) (by rfl) (pa_cons' (pv' 3) (pa_cons' (pe_int') (pa_nil')))) (pa_nil')))))))))) (pa_nil')))))
  (pss_cons' (ps_if' (pt_cmp' od_in op_in_seq (pv' 4) (pe_tup' (pa_cons' (pe_str') (pa_cons' (pe_str') (pa_nil')))) (by with_unfolding_all rfl)) (pss_one' (ps_set' (i := 5) sc_law.nd (pe_callB' cd_max2 (call_max2 rfl) (by rfl) B.n_max boot_max (pa_cons' (pe_int') (pa_cons' (pv' 5) (pa_nil')))))) (pss_nil'))
  (pss_one' (ps_if' (PW'.pt (pw_or' (pt_not' (pt_tru' (pe_call' G__law_right (hr.mono (by decide)) (by rfl) (pa_cons' (pv' 3) (pa_cons' (pv' 4) (pa_cons' (pv' 5) (pa_nil'))))))) (pw_or1' (pt_not' (pt_tru' (pe_call' G__law_honest_right (hr.mono (by decide)) (by rfl) (pa_cons' (pv' 3) (pa_cons' (pv' 4) (pa_cons' (pv' 5) (pa_nil')))))))))) (pss_one' (ps_ret' (pe_bl'))) (pss_nil')))))))))))
  (pss_one' (ps_ret' (pe_bl')))) (rd_law88 cl)
def ps__law_word : List Str := ["ask"]
def N__law_word : List Str := ["ask", "e"]
theorem sc__law_word : FnScope N__law_word ps__law_word (defScope s__law_word) := ⟨rfl, rfl, rfl, by decide +kernel, rfl, by decide +kernel, by decide +kernel⟩
theorem gv__law_word (B : Bl K mg cl) {f : Addr} {fd : FuncData} (F : FunD K "_law_word" "_law_word" (defArgs s__law_word) (defBody s__law_word) (defScope s__law_word) [] [] f fd) (hm : mg "_law_word" = some (.ref f)) : GvD P w K mg base cl.xa "_law_word" 2 (t__law_word cl) :=
  ⟨f, fd, N__law_word, "ask", _, _, _, F, hm, F.bindsN fun _ _ _ _ _ _ us hl => match us, hl with | [_], _ => rfl, sc__law_word, rfl, rfl, (by first | exact Or.inl rfl | exact Or.inr (Or.inl rfl) | exact Or.inr (Or.inr rfl)), by decide +kernel, by decide +kernel, fun cdv A stk s H f c act => pss_one' (ps_tryAs' (i := 1) (xa := cl.xa) rfl rfl sc__law_word.nd rfl rfl ⟨by rfl, by rfl, .inl B.gx_SortError⟩ takes_no B.xm_SortError (fun W1 pn1 xe1 tk1 po1 => pss_one' (ps_ret' (pe_tup' (pa_cons' (pe_str') (pa_cons' (act W1 pn1 xe1 _ _ tk1) (pa_nil')))))) (fun a1 oe1 C1 d1 pn1 hC1 hz1 hv1 => pss_one' (ps_ret' (pe_ifExp' (pt_tru' (pe_isE' (B.xi _ hC1) hz1 hv1 (pv' 1) (pe_glob (v := .ref (cl.xa .answers)) (by rfl) B.gx_InvalidAnswers rfl) (fun _ r => r) (B.xk_InvalidAnswers _ hC1) (by rfl) B.n_isinstance)) (pe_tup' (pa_cons' (pe_str') (pa_cons' (pe_xf' (f := 20) (B.xf _ hC1) (B.xno_index _ hC1) hz1 hv1 (pv' 1)) (pa_nil')))) (pe_tup' (pa_cons' (pe_str') (pa_cons' (pe_non') (pa_nil'))))))))⟩
def ps_InvalidAnswers___init__ : List Str := ["self", "index"]
theorem sc_InvalidAnswers___init__ : FnScope ps_InvalidAnswers___init__ ps_InvalidAnswers___init__ (defScope s_InvalidAnswers___init__) := ⟨rfl, rfl, rfl, by decide +kernel, rfl, by decide +kernel, by decide +kernel⟩
theorem ok_InvalidAnswers___init__ (S : SeI K cl.sortE) (gS : mg "SortError" = some (.ref cl.sortE)) {f : Addr} {fd : FuncData} (F : FunD K "__init__" "InvalidAnswers.__init__" (defArgs s_InvalidAnswers___init__) (defBody s_InvalidAnswers___init__) (defScope s_InvalidAnswers___init__) [] [] f fd) {C : Addr} (T : XcF K C f "index") : FnOk P w K mg base CX0 1 f fd ps_InvalidAnswers___init__ (spI C "index") :=
  xiniOk (N := ps_InvalidAnswers___init__) (m := "these are no answers") F T sc_InvalidAnswers___init__ rfl rfl fun cdv A outer s H E => pss_cons (ps_expr (pe_seinit (pl := _) S (by rfl) gS (pa_cons (pe_var (i := 0) (by rfl) (by first | exact Or.inl rfl | exact Or.inr (Or.inl rfl) | exact Or.inr (Or.inr rfl))) (pa_cons pe_str pa_nil)))) (pss_one (ps_ost (pe_var (i := 0) (by rfl) (by first | exact Or.inl rfl | exact Or.inr (Or.inl rfl) | exact Or.inr (Or.inr rfl))) (pe_var (i := 1) (by rfl) (by first | exact Or.inl rfl | exact Or.inr (Or.inl rfl) | exact Or.inr (Or.inr rfl)))))
def ps_Paused___init__ : List Str := ["self", "question"]
theorem sc_Paused___init__ : FnScope ps_Paused___init__ ps_Paused___init__ (defScope s_Paused___init__) := ⟨rfl, rfl, rfl, by decide +kernel, rfl, by decide +kernel, by decide +kernel⟩
theorem ok_Paused___init__ (S : SeI K cl.sortE) (gS : mg "SortError" = some (.ref cl.sortE)) {f : Addr} {fd : FuncData} (F : FunD K "__init__" "Paused.__init__" (defArgs s_Paused___init__) (defBody s_Paused___init__) (defScope s_Paused___init__) [] [] f fd) {C : Addr} (T : XcF K C f "pair") : FnOk P w K mg base CX0 1 f fd ps_Paused___init__ (spI C "pair") :=
  xiniOk (N := ps_Paused___init__) (m := "a question waits for its answer") F T sc_Paused___init__ rfl rfl fun cdv A outer s H E => pss_cons (ps_expr (pe_seinit (pl := _) S (by rfl) gS (pa_cons (pe_var (i := 0) (by rfl) (by first | exact Or.inl rfl | exact Or.inr (Or.inl rfl) | exact Or.inr (Or.inr rfl))) (pa_cons pe_str pa_nil)))) (pss_one (ps_ost (pe_var (i := 0) (by rfl) (by first | exact Or.inl rfl | exact Or.inr (Or.inl rfl) | exact Or.inr (Or.inr rfl))) (pe_var (i := 1) (by rfl) (by first | exact Or.inl rfl | exact Or.inr (Or.inl rfl) | exact Or.inr (Or.inr rfl)))))
end
end K88

namespace K88
open PySem PySem.Spec PyProof.Rows L2 DL
def clK (K : PySem.W.Frag) : Cl := ⟨He.ga K "Honest", He.ga K "Told", 0, 0, 0, 0, 0, 0, 0, 0, 0, 0, 0, 0, 0, xaK K, He.ga K "SortError", xtsK, fun p => (He.cT K p).2⟩
theorem facts {P : Program} {w : World} {K : PySem.W.Frag} {h : Heap} {mg : Str → Option Value} {f : Addr} (X : K.In h) (G : h.Ns mainGlobals mg) (hfa : mg ("law" : Str) = some (.ref f)) (c : He.SaysX fa fn [] [("_law_right", none)] ex w h K) :
    ∃ fd : FuncData, (∀ (s : Shared) (v : Value), BindsTo s fd ⟨[v], []⟩ [("script", v)]) ∧ ∀ base : Heap, K.In base → base.Ns mainGlobals mg → (∀ p ∈ ([("_law_right", none)] : List He.Defn).map (He.cT K), LamX.TabB base mg p.1 p.2) → FnOk P w K mg base CX0 12 f fd ["script"] (liftC K (C_law88 (clK K))) := by
  have cm := c.more
  simp only [ex, Bool.and_eq_true] at cm
  have B : Bl K mg (clK K) := {
    c_Honest := He.cls_ok (c.t.d.fact 7 (f := .cls "Honest") rfl)
    c_Told := He.cls_ok (c.t.d.fact 13 (f := .cls "Told") rfl)
    g_BARE := He.glo_ok X G (c.t.d.fact 52 (f := .glo "BARE") rfl)
    g_DEEDS := He.glo_ok X G (c.t.d.fact 51 (f := .glo "DEEDS") rfl)
    gx_InvalidAnswers := He.glo_ok X G (c.t.d.fact 2 (f := .glo "InvalidAnswers") rfl)
    gx_Paused := He.glo_ok X G (c.t.d.fact 5 (f := .glo "Paused") rfl)
    gx_SortError := He.glo_ok X G (c.t.d.fact 0 (f := .glo "SortError") rfl)
    i_MAX_HEAP := He.int_ok X G (c.t.d.fact 53 (f := .int "MAX_HEAP" 2500) rfl)
    n_abs := He.free_ok X G (c.t.d.fact 55 (f := .free "abs") rfl)
    n_bool := He.free_ok X G (c.t.d.fact 56 (f := .free "bool") rfl)
    n_enumerate := He.free_ok X G (c.t.d.fact 57 (f := .free "enumerate") rfl)
    n_int := He.free_ok X G (c.t.d.fact 58 (f := .free "int") rfl)
    n_isinstance := He.free_ok X G (c.t.d.fact 59 (f := .free "isinstance") rfl)
    n_len := He.free_ok X G (c.t.d.fact 60 (f := .free "len") rfl)
    n_list := He.free_ok X G (c.t.d.fact 61 (f := .free "list") rfl)
    n_max := He.free_ok X G (c.t.d.fact 62 (f := .free "max") rfl)
    n_range := He.free_ok X G (c.t.d.fact 63 (f := .free "range") rfl)
    n_sorted := He.free_ok X G (c.t.d.fact 64 (f := .free "sorted") rfl)
    n_str := He.free_ok X G (c.t.d.fact 65 (f := .free "str") rfl)
    n_tuple := He.free_ok X G (c.t.d.fact 66 (f := .free "tuple") rfl)
    na_Honest_log := He.noat_ok (c.t.d.fact 10 (f := .noat "Honest" "log") rfl)
    na_Honest_marks := He.noat_ok (c.t.d.fact 9 (f := .noat "Honest" "marks") rfl)
    na_Told_answers := He.noat_ok (c.t.d.fact 15 (f := .noat "Told" "answers") rfl)
    na_Told_log := He.noat_ok (c.t.d.fact 16 (f := .noat "Told" "log") rfl)
    ts_BARE := fun H => He.tupB_ok cm.1.1.1.1.1.1.1.1.1.1.1.1.2 H
    ts_DEEDS := fun H => He.tupB_ok cm.1.1.1.1.1.1.1.1.1.1.1.1.1 H
    xf := fun t ht => xfB_ok (List.all_eq_true.mp cm.1.1.1.1.1.1.2 t ht)
    xi := fun t ht => exi_of (xfB_ok (List.all_eq_true.mp cm.1.1.1.1.1.1.2 t ht)) (List.all_eq_true.mp cm.1.1.1.1.1.2 t ht)
    xk_InvalidAnswers := fun t ht => of_decide_eq_true (List.all_eq_true.mp cm.1.1.2 t ht)
    xm_Paused := fun t ht => of_decide_eq_true (List.all_eq_true.mp cm.1.1.1.1.1.1.1.1.2 t ht)
    xm_SortError := fun t ht => of_decide_eq_true (List.all_eq_true.mp cm.1.1.1.1.1.1.1.2 t ht)
    xno_index := fun t ht => of_decide_eq_true (List.all_eq_true.mp cm.1.1.1.1.2 t ht)
    xno_pair := fun t ht => of_decide_eq_true (List.all_eq_true.mp cm.1.1.1.2 t ht)
  }
  obtain ⟨fd_InvalidAnswers___init__, F_InvalidAnswers___init__⟩ : ∃ fd, FunD K "__init__" "InvalidAnswers.__init__" (defArgs s_InvalidAnswers___init__) (defBody s_InvalidAnswers___init__) (defScope s_InvalidAnswers___init__) [] [] (He.fAd K ("InvalidAnswers", some "__init__")) fd := c.t.d.def_ 0 rfl
  obtain ⟨fd_Paused___init__, F_Paused___init__⟩ : ∃ fd, FunD K "__init__" "Paused.__init__" (defArgs s_Paused___init__) (defBody s_Paused___init__) (defScope s_Paused___init__) [] [] (He.fAd K ("Paused", some "__init__")) fd := c.t.d.def_ 1 rfl
  obtain ⟨fd__law_words, F__law_words⟩ : ∃ fd, FunD K "_law_words" "_law_words" (defArgs s__law_words) (defBody s__law_words) (defScope s__law_words) [] [] (He.fAd K ("_law_words", none)) fd := c.t.d.def_ 32 rfl
  obtain ⟨fd__law_items_right, F__law_items_right⟩ : ∃ fd, FunD K "_law_items_right" "_law_items_right" (defArgs s__law_items_right) (defBody s__law_items_right) (defScope s__law_items_right) [] [] (He.fAd K ("_law_items_right", none)) fd := c.t.d.def_ 34 rfl
  obtain ⟨fd_swap_places, F_swap_places⟩ : ∃ fd, FunD K "swap_places" "swap_places" (defArgs s_swap_places) (defBody s_swap_places) (defScope s_swap_places) [] [] (He.fAd K ("swap_places", none)) fd := c.t.d.def_ 13 rfl
  obtain ⟨fd_Honest_less, F_Honest_less⟩ : ∃ fd, FunD K "less" "Honest.less" (defArgs s_Honest_less) (defBody s_Honest_less) (defScope s_Honest_less) [] [] (He.fAd K ("Honest", some "less")) fd := c.t.d.def_ 3 rfl
  obtain ⟨fd_Told_less, F_Told_less⟩ : ∃ fd, FunD K "less" "Told.less" (defArgs s_Told_less) (defBody s_Told_less) (defScope s_Told_less) [] [] (He.fAd K ("Told", some "less")) fd := c.t.d.def_ 5 rfl
  obtain ⟨fd_rise_from, F_rise_from⟩ : ∃ fd, FunD K "rise_from" "rise_from" (defArgs s_rise_from) (defBody s_rise_from) (defScope s_rise_from) [] [] (He.fAd K ("rise_from", none)) fd := c.t.d.def_ 14 rfl
  obtain ⟨fd_sink_from, F_sink_from⟩ : ∃ fd, FunD K "sink_from" "sink_from" (defArgs s_sink_from) (defBody s_sink_from) (defScope s_sink_from) [] [] (He.fAd K ("sink_from", none)) fd := c.t.d.def_ 15 rfl
  obtain ⟨fd_make_heap, F_make_heap⟩ : ∃ fd, FunD K "make_heap" "make_heap" (defArgs s_make_heap) (defBody s_make_heap) (defScope s_make_heap) [] [] (He.fAd K ("make_heap", none)) fd := c.t.d.def_ 16 rfl
  obtain ⟨fd_take_first, F_take_first⟩ : ∃ fd, FunD K "take_first" "take_first" (defArgs s_take_first) (defBody s_take_first) (defScope s_take_first) [] [] (He.fAd K ("take_first", none)) fd := c.t.d.def_ 17 rfl
  obtain ⟨fd_put_first, F_put_first⟩ : ∃ fd, FunD K "put_first" "put_first" (defArgs s_put_first) (defBody s_put_first) (defScope s_put_first) [] [] (He.fAd K ("put_first", none)) fd := c.t.d.def_ 18 rfl
  obtain ⟨fd_do_deed, F_do_deed⟩ : ∃ fd, FunD K "do_deed" "do_deed" (defArgs s_do_deed) (defBody s_do_deed) (defScope s_do_deed) [] [] (He.fAd K ("do_deed", none)) fd := c.t.d.def_ 19 rfl
  obtain ⟨fd_require_filled, F_require_filled⟩ : ∃ fd, FunD K "require_filled" "require_filled" (defArgs s_require_filled) (defBody s_require_filled) (defScope s_require_filled) [] [] (He.fAd K ("require_filled", none)) fd := c.t.d.def_ 12 rfl
  obtain ⟨fd_require_answers, F_require_answers⟩ : ∃ fd, FunD K "require_answers" "require_answers" (defArgs s_require_answers) (defBody s_require_answers) (defScope s_require_answers) [] [] (He.fAd K ("require_answers", none)) fd := c.t.d.def_ 9 rfl
  obtain ⟨fd_is_integer, F_is_integer⟩ : ∃ fd, FunD K "is_integer" "is_integer" (defArgs s_is_integer) (defBody s_is_integer) (defScope s_is_integer) [] [] (He.fAd K ("is_integer", none)) fd := c.t.d.def_ 6 rfl
  obtain ⟨fd_is_between, F_is_between⟩ : ∃ fd, FunD K "is_between" "is_between" (defArgs s_is_between) (defBody s_is_between) (defScope s_is_between) [] [] (He.fAd K ("is_between", none)) fd := c.t.d.def_ 7 rfl
  obtain ⟨fd_require_number, F_require_number⟩ : ∃ fd, FunD K "require_number" "require_number" (defArgs s_require_number) (defBody s_require_number) (defScope s_require_number) [] [] (He.fAd K ("require_number", none)) fd := c.t.d.def_ 10 rfl
  obtain ⟨fd_require_deed, F_require_deed⟩ : ∃ fd, FunD K "require_deed" "require_deed" (defArgs s_require_deed) (defBody s_require_deed) (defScope s_require_deed) [] [] (He.fAd K ("require_deed", none)) fd := c.t.d.def_ 11 rfl
  obtain ⟨fd_Told___init__, F_Told___init__⟩ : ∃ fd, FunD K "__init__" "Told.__init__" (defArgs s_Told___init__) (defBody s_Told___init__) (defScope s_Told___init__) [] [] (He.fAd K ("Told", some "__init__")) fd := c.t.d.def_ 4 rfl
  obtain ⟨fd_deed_told, F_deed_told⟩ : ∃ fd, FunD K "deed_told" "deed_told" (defArgs s_deed_told) (defBody s_deed_told) (defScope s_deed_told) [] [] (He.fAd K ("deed_told", none)) fd := c.t.d.def_ 21 rfl
  obtain ⟨fd__law_ask, F__law_ask⟩ : ∃ fd, FunD K "_law_ask" "_law_ask" (defArgs s__law_ask) (defBody s__law_ask) (defScope s__law_ask) [] [] (He.fAd K ("_law_ask", none)) fd := c.t.d.def_ 25 rfl
  obtain ⟨fd__law_up, F__law_up⟩ : ∃ fd, FunD K "_law_up" "_law_up" (defArgs s__law_up) (defBody s__law_up) (defScope s__law_up) [] [] (He.fAd K ("_law_up", none)) fd := c.t.d.def_ 26 rfl
  obtain ⟨fd__law_down, F__law_down⟩ : ∃ fd, FunD K "_law_down" "_law_down" (defArgs s__law_down) (defBody s__law_down) (defScope s__law_down) [] [] (He.fAd K ("_law_down", none)) fd := c.t.d.def_ 27 rfl
  obtain ⟨fd__law_first, F__law_first⟩ : ∃ fd, FunD K "_law_first" "_law_first" (defArgs s__law_first) (defBody s__law_first) (defScope s__law_first) [] [] (He.fAd K ("_law_first", none)) fd := c.t.d.def_ 28 rfl
  obtain ⟨fd__law_go, F__law_go⟩ : ∃ fd, FunD K "_law_go" "_law_go" (defArgs s__law_go) (defBody s__law_go) (defScope s__law_go) [] [] (He.fAd K ("_law_go", none)) fd := c.t.d.def_ 29 rfl
  obtain ⟨fd__law_deed, F__law_deed⟩ : ∃ fd, FunD K "_law_deed" "_law_deed" (defArgs s__law_deed) (defBody s__law_deed) (defScope s__law_deed) [] [] (He.fAd K ("_law_deed", none)) fd := c.t.d.def_ 30 rfl
  obtain ⟨fd__law_draw, F__law_draw⟩ : ∃ fd, FunD K "_law_draw" "_law_draw" (defArgs s__law_draw) (defBody s__law_draw) (defScope s__law_draw) [] [] (He.fAd K ("_law_draw", none)) fd := c.t.d.def_ 23 rfl
  obtain ⟨fd__law_right, F__law_right⟩ : ∃ fd, FunD K "_law_right" "_law_right" (defArgs s__law_right) (defBody s__law_right) (defScope s__law_right) [] [] (He.fAd K ("_law_right", none)) fd := c.t.d.def_ 35 rfl
  obtain ⟨fd_require_keys, F_require_keys⟩ : ∃ fd, FunD K "require_keys" "require_keys" (defArgs s_require_keys) (defBody s_require_keys) (defScope s_require_keys) [.int 2000] [] (He.fAd K ("require_keys", none)) fd := c.t.d.def_ 8 rfl
  obtain ⟨fd_Honest___init__, F_Honest___init__⟩ : ∃ fd, FunD K "__init__" "Honest.__init__" (defArgs s_Honest___init__) (defBody s_Honest___init__) (defScope s_Honest___init__) [] [] (He.fAd K ("Honest", some "__init__")) fd := c.t.d.def_ 2 rfl
  obtain ⟨fd_deed_done, F_deed_done⟩ : ∃ fd, FunD K "deed_done" "deed_done" (defArgs s_deed_done) (defBody s_deed_done) (defScope s_deed_done) [.non] [] (He.fAd K ("deed_done", none)) fd := c.t.d.def_ 20 rfl
  obtain ⟨fd__law_honest, F__law_honest⟩ : ∃ fd, FunD K "_law_honest" "_law_honest" (defArgs s__law_honest) (defBody s__law_honest) (defScope s__law_honest) [] [] (He.fAd K ("_law_honest", none)) fd := c.t.d.def_ 31 rfl
  obtain ⟨fd__law_honest_right, F__law_honest_right⟩ : ∃ fd, FunD K "_law_honest_right" "_law_honest_right" (defArgs s__law_honest_right) (defBody s__law_honest_right) (defScope s__law_honest_right) [] [] (He.fAd K ("_law_honest_right", none)) fd := c.t.d.def_ 36 rfl
  obtain ⟨fd__law_pick, F__law_pick⟩ : ∃ fd, FunD K "_law_pick" "_law_pick" (defArgs s__law_pick) (defBody s__law_pick) (defScope s__law_pick) [] [] (He.fAd K ("_law_pick", none)) fd := c.t.d.def_ 24 rfl
  obtain ⟨fd__law_well, F__law_well⟩ : ∃ fd, FunD K "_law_well" "_law_well" (defArgs s__law_well) (defBody s__law_well) (defScope s__law_well) [] [] (He.fAd K ("_law_well", none)) fd := c.t.d.def_ 22 rfl
  obtain ⟨fd_law, F_law⟩ : ∃ fd, FunD K "law" "law" (defArgs s_law) (defBody s_law) (defScope s_law) [] [] (He.fAd K ("law", none)) fd := c.t.d.def_ 37 rfl
  obtain ⟨fd__law_word, F__law_word⟩ : ∃ fd, FunD K "_law_word" "_law_word" (defArgs s__law_word) (defBody s__law_word) (defScope s__law_word) [] [] (He.fAd K ("_law_word", none)) fd := c.t.d.def_ 33 rfl
  have T_InvalidAnswers := xcB_ok cm.1.1.1.1.1.1.1.1.1.1.2
  have T_Paused := xcB_ok cm.1.1.1.1.1.1.1.1.1.2
  have e := hfa.symm.trans (He.glo_ok X G (c.t.d.fact 49 (f := .glo "law") rfl))
  cases e
  refine ⟨fd_law, fun s v => FunD.bindsA (ps := ["script"]) F_law (fun _ _ _ _ _ _ us hl => match us, hl with | [_], _ => rfl) s [v] rfl, fun base _ _ hTB => ?_⟩
  have ok__law_words : FnOk P w K mg base CX0 1 _ fd__law_words ps__law_words (liftC K (C__law_words (clK K))) := ok__law_words B  F__law_words
  have ok__law_items_right : FnOk P w K mg base CX0 1 _ fd__law_items_right ps__law_items_right (liftC K (C__law_items_right (clK K))) := ok__law_items_right B  F__law_items_right
  have ok_swap_places : FnOk P w K mg base CX0 1 _ fd_swap_places ps_swap_places (liftC K (C_swap_places (clK K))) := ok_swap_places B  F_swap_places
  have ok_Honest_less : FnOk P w K mg base CX0 1 _ fd_Honest_less ps_Honest_less (liftC K (C_Honest_less (clK K))) := ok_Honest_less B  F_Honest_less
  have X_Paused : XcC P w K mg base "Paused" ((clK K).xa .paused) "pair" 1 := xc_of T_Paused (He.glo_ok X G (c.t.d.fact 5 (f := .glo "Paused") rfl)) (F_Paused___init__.bindsN fun _ _ _ _ _ _ us hl => match us, hl with | [_, _], _ => rfl) (ok_Paused___init__ (cl := clK K) (seiB_ok cm.1.1.1.1.1.1.1.1.1.1.1.2) (He.glo_ok X G (c.t.d.fact 0 (f := .glo "SortError") rfl)) F_Paused___init__ T_Paused)
  have ok_Told_less : FnOk P w K mg base (L2.CX P w) 3 _ fd_Told_less ps_Told_less (liftCX K (clK K).xa (C_Told_less (clK K))) := ok_Told_less B X_Paused F_Told_less
  have G_swap_places : Fnd P w K mg base "swap_places" 3 [] (C_swap_places (clK K)) 1 := ⟨_, fd_swap_places, ps_swap_places, [], [], He.glo_ok X G (c.t.d.fact 25 (f := .glo "swap_places") rfl), F_swap_places.kp, F_swap_places.bindsN fun _ _ _ _ _ _ us hl => match us, hl with | [_, _, _], _ => rfl, .nil, fun _ => .nil, ok_swap_places⟩
  have G_Honest_less : Mtd P w K mg base (clK K).Honest "less" [] (C_Honest_less (clK K)) 1 := ⟨B.c_Honest, by decide +kernel, _, fd_Honest_less, ps_Honest_less, [], [], He.meth_ok (c.t.d.fact 11 (f := .meth "Honest" "less") rfl), F_Honest_less.bindsN fun _ _ _ _ _ _ us hl => match us, hl with | [_, _, _], _ => rfl, .nil, fun _ => .nil, ok_Honest_less⟩
  have G_Told_less_ : (clK K).Told ≠ 0 → MtdX P w K mg base (clK K).xa (clK K).Told "less" [] (C_Told_less (clK K)) 3 := fun _ => ⟨B.c_Told, by decide +kernel, _, fd_Told_less, ps_Told_less, [], [], He.meth_ok (c.t.d.fact 17 (f := .meth "Told" "less") rfl), F_Told_less.bindsN fun _ _ _ _ _ _ us hl => match us, hl with | [_, _, _], _ => rfl, .nil, fun _ => .nil, ok_Told_less⟩
  have ok_rise_from : FnOk P w K mg base (L2.CX P w) 4 _ fd_rise_from ps_rise_from (liftCX K (clK K).xa (C_rise_from (clK K))) := ok_rise_from B G_swap_places G_Honest_less G_Told_less_ F_rise_from
  have G_rise_from : FndX P w K mg base (clK K).xa "rise_from" 4 [] (C_rise_from (clK K)) 4 := ⟨_, fd_rise_from, ps_rise_from, [], [], He.glo_ok X G (c.t.d.fact 26 (f := .glo "rise_from") rfl), F_rise_from.kp, F_rise_from.bindsN fun _ _ _ _ _ _ us hl => match us, hl with | [_, _, _, _], _ => rfl, .nil, fun _ => .nil, ok_rise_from⟩
  have ok_sink_from : FnOk P w K mg base (L2.CX P w) 5 _ fd_sink_from ps_sink_from (liftCX K (clK K).xa (C_sink_from (clK K))) := ok_sink_from B G_rise_from G_swap_places G_Honest_less G_Told_less_ F_sink_from
  have G_sink_from : FndX P w K mg base (clK K).xa "sink_from" 3 [] (C_sink_from (clK K)) 5 := ⟨_, fd_sink_from, ps_sink_from, [], [], He.glo_ok X G (c.t.d.fact 27 (f := .glo "sink_from") rfl), F_sink_from.kp, F_sink_from.bindsN fun _ _ _ _ _ _ us hl => match us, hl with | [_, _, _], _ => rfl, .nil, fun _ => .nil, ok_sink_from⟩
  have ok_make_heap : FnOk P w K mg base (L2.CX P w) 6 _ fd_make_heap ps_make_heap (liftCX K (clK K).xa (C_make_heap (clK K))) := ok_make_heap B G_sink_from F_make_heap
  have ok_take_first : FnOk P w K mg base (L2.CX P w) 6 _ fd_take_first ps_take_first (liftCX K (clK K).xa (C_take_first (clK K))) := ok_take_first B G_sink_from F_take_first
  have ok_put_first : FnOk P w K mg base (L2.CX P w) 6 _ fd_put_first ps_put_first (liftCX K (clK K).xa (C_put_first (clK K))) := ok_put_first B G_sink_from F_put_first
  have G_make_heap : FndX P w K mg base (clK K).xa "make_heap" 2 [] (C_make_heap (clK K)) 6 := ⟨_, fd_make_heap, ps_make_heap, [], [], He.glo_ok X G (c.t.d.fact 28 (f := .glo "make_heap") rfl), F_make_heap.kp, F_make_heap.bindsN fun _ _ _ _ _ _ us hl => match us, hl with | [_, _], _ => rfl, .nil, fun _ => .nil, ok_make_heap⟩
  have G_take_first : FndX P w K mg base (clK K).xa "take_first" 2 [] (C_take_first (clK K)) 6 := ⟨_, fd_take_first, ps_take_first, [], [], He.glo_ok X G (c.t.d.fact 29 (f := .glo "take_first") rfl), F_take_first.kp, F_take_first.bindsN fun _ _ _ _ _ _ us hl => match us, hl with | [_, _], _ => rfl, .nil, fun _ => .nil, ok_take_first⟩
  have G_put_first : FndX P w K mg base (clK K).xa "put_first" 3 [] (C_put_first (clK K)) 6 := ⟨_, fd_put_first, ps_put_first, [], [], He.glo_ok X G (c.t.d.fact 30 (f := .glo "put_first") rfl), F_put_first.kp, F_put_first.bindsN fun _ _ _ _ _ _ us hl => match us, hl with | [_, _, _], _ => rfl, .nil, fun _ => .nil, ok_put_first⟩
  have ok_do_deed : FnOk P w K mg base (L2.CX P w) 7 _ fd_do_deed ps_do_deed (liftCX K (clK K).xa (C_do_deed (clK K))) := ok_do_deed B G_make_heap G_rise_from G_take_first G_put_first G_Honest_less G_Told_less_ F_do_deed
  have ok_require_filled : FnOk P w K mg base CX0 1 _ fd_require_filled ps_require_filled (liftC K (C_require_filled (clK K))) := ok_require_filled B  F_require_filled
  have ok_require_answers : FnOk P w K mg base CX0 1 _ fd_require_answers ps_require_answers (liftC K (C_require_answers (clK K))) := ok_require_answers B  F_require_answers
  have ok_is_integer : FnOk P w K mg base CX0 1 _ fd_is_integer ps_is_integer (liftC K (C_is_integer (clK K))) := ok_is_integer B  F_is_integer
  have G_is_integer : Fnd P w K mg base "is_integer" 1 [] (C_is_integer (clK K)) 1 := ⟨_, fd_is_integer, ps_is_integer, [], [], He.glo_ok X G (c.t.d.fact 18 (f := .glo "is_integer") rfl), F_is_integer.kp, F_is_integer.bindsN fun _ _ _ _ _ _ us hl => match us, hl with | [_], _ => rfl, .nil, fun _ => .nil, ok_is_integer⟩
  have ok_is_between : FnOk P w K mg base CX0 2 _ fd_is_between ps_is_between (liftC K (C_is_between (clK K))) := ok_is_between B G_is_integer F_is_between
  have G_is_between : Fnd P w K mg base "is_between" 3 [] (C_is_between (clK K)) 2 := ⟨_, fd_is_between, ps_is_between, [], [], He.glo_ok X G (c.t.d.fact 19 (f := .glo "is_between") rfl), F_is_between.kp, F_is_between.bindsN fun _ _ _ _ _ _ us hl => match us, hl with | [_, _, _], _ => rfl, .nil, fun _ => .nil, ok_is_between⟩
  have ok_require_number : FnOk P w K mg base CX0 3 _ fd_require_number ps_require_number (liftC K (C_require_number (clK K))) := ok_require_number B G_is_between F_require_number
  have ok_require_deed : FnOk P w K mg base CX0 1 _ fd_require_deed ps_require_deed (liftC K (C_require_deed (clK K))) := ok_require_deed B  F_require_deed
  have ok_Told___init__ : FnOk P w K mg base CX0 1 _ fd_Told___init__ ps_Told___init__ (liftC K (C_Told___init__ (clK K))) := ok_Told___init__ B  F_Told___init__
  have G_do_deed : FndX P w K mg base (clK K).xa "do_deed" 3 [] (C_do_deed (clK K)) 7 := ⟨_, fd_do_deed, ps_do_deed, [], [], He.glo_ok X G (c.t.d.fact 31 (f := .glo "do_deed") rfl), F_do_deed.kp, F_do_deed.bindsN fun _ _ _ _ _ _ us hl => match us, hl with | [_, _, _], _ => rfl, .nil, fun _ => .nil, ok_do_deed⟩
  have G_require_filled : Fnd P w K mg base "require_filled" 2 [] (C_require_filled (clK K)) 1 := ⟨_, fd_require_filled, ps_require_filled, [], [], He.glo_ok X G (c.t.d.fact 24 (f := .glo "require_filled") rfl), F_require_filled.kp, F_require_filled.bindsN fun _ _ _ _ _ _ us hl => match us, hl with | [_, _], _ => rfl, .nil, fun _ => .nil, ok_require_filled⟩
  have G_require_answers : Fnd P w K mg base "require_answers" 1 [] (C_require_answers (clK K)) 1 := ⟨_, fd_require_answers, ps_require_answers, [], [], He.glo_ok X G (c.t.d.fact 21 (f := .glo "require_answers") rfl), F_require_answers.kp, F_require_answers.bindsN fun _ _ _ _ _ _ us hl => match us, hl with | [_], _ => rfl, .nil, fun _ => .nil, ok_require_answers⟩
  have G_require_number : Fnd P w K mg base "require_number" 4 [] (C_require_number (clK K)) 3 := ⟨_, fd_require_number, ps_require_number, [], [], He.glo_ok X G (c.t.d.fact 22 (f := .glo "require_number") rfl), F_require_number.kp, F_require_number.bindsN fun _ _ _ _ _ _ us hl => match us, hl with | [_, _, _, _], _ => rfl, .nil, fun _ => .nil, ok_require_number⟩
  have G_require_deed : Fnd P w K mg base "require_deed" 1 [] (C_require_deed (clK K)) 1 := ⟨_, fd_require_deed, ps_require_deed, [], [], He.glo_ok X G (c.t.d.fact 23 (f := .glo "require_deed") rfl), F_require_deed.kp, F_require_deed.bindsN fun _ _ _ _ _ _ us hl => match us, hl with | [_], _ => rfl, .nil, fun _ => .nil, ok_require_deed⟩
  have G_Told : Mkd P w K mg base "Told" (clK K).Told [] (C_Told___init__ (clK K)) 1 := ⟨_, fd_Told___init__, ps_Told___init__, [], [], He.mkr_ok (c.t.d.fact 14 (f := .mkr "Told") rfl), He.glo_ok X G (c.t.d.fact 12 (f := .glo "Told") rfl), F_Told___init__.bindsN fun _ _ _ _ _ _ us hl => match us, hl with | [_, _], _ => rfl, .nil, fun _ => .nil, ok_Told___init__⟩
  have X_InvalidAnswers : XcC P w K mg base "InvalidAnswers" ((clK K).xa .answers) "index" 1 := xc_of T_InvalidAnswers (He.glo_ok X G (c.t.d.fact 2 (f := .glo "InvalidAnswers") rfl)) (F_InvalidAnswers___init__.bindsN fun _ _ _ _ _ _ us hl => match us, hl with | [_, _], _ => rfl) (ok_InvalidAnswers___init__ (cl := clK K) (seiB_ok cm.1.1.1.1.1.1.1.1.1.1.1.2) (He.glo_ok X G (c.t.d.fact 0 (f := .glo "SortError") rfl)) F_InvalidAnswers___init__ T_InvalidAnswers)
  have ok_deed_told : FnOk P w K mg base (L2.CX P w) 8 _ fd_deed_told ps_deed_told (liftCX K (clK K).xa (C_deed_told (clK K))) := ok_deed_told B G_do_deed G_require_filled G_require_answers G_require_number G_require_deed G_Told X_InvalidAnswers F_deed_told
  have ok__law_ask : FnOk P w K mg base CX0 1 _ fd__law_ask ps__law_ask (liftC K (C__law_ask (clK K))) := ok__law_ask B  F__law_ask
  have G__law_ask : Fnd P w K mg base "_law_ask" 3 [] (C__law_ask (clK K)) 1 := ⟨_, fd__law_ask, ps__law_ask, [], [], He.glo_ok X G (c.t.d.fact 37 (f := .glo "_law_ask") rfl), F__law_ask.kp, F__law_ask.bindsN fun _ _ _ _ _ _ us hl => match us, hl with | [_, _, _], _ => rfl, .nil, fun _ => .nil, ok__law_ask⟩
  have ok__law_up : FnOk P w K mg base CX0 2 _ fd__law_up ps__law_up (liftC K (C__law_up (clK K))) := ok__law_up B G__law_ask F__law_up
  have G__law_up : Fnd P w K mg base "_law_up" 4 [] (C__law_up (clK K)) 2 := ⟨_, fd__law_up, ps__law_up, [], [], He.glo_ok X G (c.t.d.fact 38 (f := .glo "_law_up") rfl), F__law_up.kp, F__law_up.bindsN fun _ _ _ _ _ _ us hl => match us, hl with | [_, _, _, _], _ => rfl, .nil, fun _ => .nil, ok__law_up⟩
  have ok__law_down : FnOk P w K mg base CX0 3 _ fd__law_down ps__law_down (liftC K (C__law_down (clK K))) := ok__law_down B G__law_up G__law_ask F__law_down
  have G__law_down : Fnd P w K mg base "_law_down" 3 [] (C__law_down (clK K)) 3 := ⟨_, fd__law_down, ps__law_down, [], [], He.glo_ok X G (c.t.d.fact 39 (f := .glo "_law_down") rfl), F__law_down.kp, F__law_down.bindsN fun _ _ _ _ _ _ us hl => match us, hl with | [_, _, _], _ => rfl, .nil, fun _ => .nil, ok__law_down⟩
  have ok__law_first : FnOk P w K mg base CX0 4 _ fd__law_first ps__law_first (liftC K (C__law_first (clK K))) := ok__law_first B G__law_down F__law_first
  have G__law_first : Fnd P w K mg base "_law_first" 3 [] (C__law_first (clK K)) 4 := ⟨_, fd__law_first, ps__law_first, [], [], He.glo_ok X G (c.t.d.fact 40 (f := .glo "_law_first") rfl), F__law_first.kp, F__law_first.bindsN fun _ _ _ _ _ _ us hl => match us, hl with | [_, _, _], _ => rfl, .nil, fun _ => .nil, ok__law_first⟩
  have ok__law_go : FnOk P w K mg base CX0 5 _ fd__law_go ps__law_go (liftC K (C__law_go (clK K))) := ok__law_go B G__law_first G__law_ask G__law_up G__law_down F__law_go
  have G__law_go : Fnd P w K mg base "_law_go" 3 [] (C__law_go (clK K)) 5 := ⟨_, fd__law_go, ps__law_go, [], [], He.glo_ok X G (c.t.d.fact 41 (f := .glo "_law_go") rfl), F__law_go.kp, F__law_go.bindsN fun _ _ _ _ _ _ us hl => match us, hl with | [_, _, _], _ => rfl, .nil, fun _ => .nil, ok__law_go⟩
  have ok__law_deed : FnOk P w K mg base CX0 6 _ fd__law_deed ps__law_deed (liftC K (C__law_deed (clK K))) := ok__law_deed B G__law_go F__law_deed
  have ok__law_draw : FnOk P w K mg base CX0 1 _ fd__law_draw ps__law_draw (liftC K (C__law_draw (clK K))) := ok__law_draw B  F__law_draw
  have G__law_items_right : Fnd P w K mg base "_law_items_right" 3 [] (C__law_items_right (clK K)) 1 := ⟨_, fd__law_items_right, ps__law_items_right, [], [], He.glo_ok X G (c.t.d.fact 46 (f := .glo "_law_items_right") rfl), F__law_items_right.kp, F__law_items_right.bindsN fun _ _ _ _ _ _ us hl => match us, hl with | [_, _, _], _ => rfl, .nil, fun _ => .nil, ok__law_items_right⟩
  have G_deed_told : FndX P w K mg base (clK K).xa "deed_told" 3 [] (C_deed_told (clK K)) 8 := ⟨_, fd_deed_told, ps_deed_told, [], [], He.glo_ok X G (c.t.d.fact 33 (f := .glo "deed_told") rfl), F_deed_told.kp, F_deed_told.bindsN fun _ _ _ _ _ _ us hl => match us, hl with | [_, _, _], _ => rfl, .nil, fun _ => .nil, ok_deed_told⟩
  have G__law_deed : Fnd P w K mg base "_law_deed" 3 [] (C__law_deed (clK K)) 6 := ⟨_, fd__law_deed, ps__law_deed, [], [], He.glo_ok X G (c.t.d.fact 42 (f := .glo "_law_deed") rfl), F__law_deed.kp, F__law_deed.bindsN fun _ _ _ _ _ _ us hl => match us, hl with | [_, _, _], _ => rfl, .nil, fun _ => .nil, ok__law_deed⟩
  have G__law_draw : Fnd P w K mg base "_law_draw" 2 [] (C__law_draw (clK K)) 1 := ⟨_, fd__law_draw, ps__law_draw, [], [], He.glo_ok X G (c.t.d.fact 35 (f := .glo "_law_draw") rfl), F__law_draw.kp, F__law_draw.bindsN fun _ _ _ _ _ _ us hl => match us, hl with | [_, _], _ => rfl, .nil, fun _ => .nil, ok__law_draw⟩
  have Gv__law_word : GvD P w K mg base (clK K).xa "_law_word" 2 (t__law_word (clK K)) := gv__law_word B F__law_word (He.glo_ok X G (c.t.d.fact 45 (f := .glo "_law_word") rfl))
  have TL__law_right : LamT K mg base ("_law_right", none) ((clK K).tb ("_law_right", none)) := ⟨rfl, hTB _ (List.mem_map.mpr ⟨("_law_right", none), by decide +kernel, rfl⟩), by decide +kernel, fun p hp e => of_decide_eq_true (List.all_eq_true.mp cm.1.2 p hp) e⟩
  have ok__law_right : FnOk P w K mg base CX0 11 _ fd__law_right ps__law_right (liftC K (C__law_right88 (clK K))) := ok__law_right B G__law_items_right G_deed_told G__law_deed G__law_draw Gv__law_word TL__law_right F__law_right
  have ok_require_keys : FnOk P w K mg base CX0 2 _ fd_require_keys ps_require_keys (liftC K (C_require_keys (clK K))) := ok_require_keys B G_is_integer F_require_keys
  have ok_Honest___init__ : FnOk P w K mg base CX0 1 _ fd_Honest___init__ ps_Honest___init__ (liftC K (C_Honest___init__ (clK K))) := ok_Honest___init__ B  F_Honest___init__
  have G_require_keys : Fnd P w K mg base "require_keys" 2 [] (C_require_keys (clK K)) 2 := by
    obtain ⟨ds, r, b⟩ := F_require_keys.binds1 (ps := ps_require_keys) 2 1 (List.cons_ne_nil _ _) rfl fun T kV doc pm an cdv ct us its l1 l2 => match us, its, l1, l2 with | [_, _], [_], _, _ => ⟨_, rfl, rfl⟩
    exact ⟨_, fd_require_keys, ps_require_keys, ds, _, He.glo_ok X G (c.t.d.fact 20 (f := .glo "require_keys") rfl), F_require_keys.kp, b, r, fun _ => .nil, ok_require_keys⟩
  have G_Honest : Mkd P w K mg base "Honest" (clK K).Honest [] (C_Honest___init__ (clK K)) 1 := ⟨_, fd_Honest___init__, ps_Honest___init__, [], [], He.mkr_ok (c.t.d.fact 8 (f := .mkr "Honest") rfl), He.glo_ok X G (c.t.d.fact 6 (f := .glo "Honest") rfl), F_Honest___init__.bindsN fun _ _ _ _ _ _ us hl => match us, hl with | [_, _], _ => rfl, .nil, fun _ => .nil, ok_Honest___init__⟩
  have ok_deed_done : FnOk P w K mg base CX0 8 _ fd_deed_done ps_deed_done (liftC K (C_deed_done (clK K))) := ok_deed_done B G_do_deed G_require_filled G_is_integer G_require_keys G_require_deed G_Honest F_deed_done
  have ok__law_honest : FnOk P w K mg base CX0 7 _ fd__law_honest ps__law_honest (liftC K (C__law_honest (clK K))) := ok__law_honest B G__law_deed F__law_honest
  have G_deed_done : Fnd P w K mg base "deed_done" 3 [] (C_deed_done (clK K)) 8 := by
    obtain ⟨ds, r, b⟩ := F_deed_done.binds1 (ps := ps_deed_done) 3 1 (List.cons_ne_nil _ _) rfl fun T kV doc pm an cdv ct us its l1 l2 => match us, its, l1, l2 with | [_, _, _], [_], _, _ => ⟨_, rfl, rfl⟩
    exact ⟨_, fd_deed_done, ps_deed_done, ds, _, He.glo_ok X G (c.t.d.fact 32 (f := .glo "deed_done") rfl), F_deed_done.kp, b, r, fun _ => .nil, ok_deed_done⟩
  have G__law_honest : Fnd P w K mg base "_law_honest" 2 [] (C__law_honest (clK K)) 7 := ⟨_, fd__law_honest, ps__law_honest, [], [], He.glo_ok X G (c.t.d.fact 43 (f := .glo "_law_honest") rfl), F__law_honest.kp, F__law_honest.bindsN fun _ _ _ _ _ _ us hl => match us, hl with | [_, _], _ => rfl, .nil, fun _ => .nil, ok__law_honest⟩
  have ok__law_honest_right : FnOk P w K mg base CX0 9 _ fd__law_honest_right ps__law_honest_right (liftC K (C__law_honest_right (clK K))) := ok__law_honest_right B G_deed_told G_deed_done G__law_honest G__law_draw F__law_honest_right
  have ok__law_pick : FnOk P w K mg base CX0 2 _ fd__law_pick ps__law_pick (liftC K (C__law_pick (clK K))) := ok__law_pick B G__law_draw F__law_pick
  have ok__law_well : FnOk P w K mg base CX0 1 _ fd__law_well ps__law_well (liftC K (C__law_well (clK K))) := ok__law_well B  F__law_well
  have G__law_words : Fnd P w K mg base "_law_words" 0 [] (C__law_words (clK K)) 1 := ⟨_, fd__law_words, ps__law_words, [], [], He.glo_ok X G (c.t.d.fact 44 (f := .glo "_law_words") rfl), F__law_words.kp, F__law_words.bindsN fun _ _ _ _ _ _ us hl => match us, hl with | [], _ => rfl, .nil, fun _ => .nil, ok__law_words⟩
  have G__law_right : Fnd P w K mg base "_law_right" 3 [] (C__law_right88 (clK K)) 11 := ⟨_, fd__law_right, ps__law_right, [], [], He.glo_ok X G (c.t.d.fact 47 (f := .glo "_law_right") rfl), F__law_right.kp, F__law_right.bindsN fun _ _ _ _ _ _ us hl => match us, hl with | [_, _, _], _ => rfl, .nil, fun _ => .nil, ok__law_right⟩
  have G__law_honest_right : Fnd P w K mg base "_law_honest_right" 3 [] (C__law_honest_right (clK K)) 9 := ⟨_, fd__law_honest_right, ps__law_honest_right, [], [], He.glo_ok X G (c.t.d.fact 48 (f := .glo "_law_honest_right") rfl), F__law_honest_right.kp, F__law_honest_right.bindsN fun _ _ _ _ _ _ us hl => match us, hl with | [_, _, _], _ => rfl, .nil, fun _ => .nil, ok__law_honest_right⟩
  have G__law_pick : Fnd P w K mg base "_law_pick" 2 [] (C__law_pick (clK K)) 2 := ⟨_, fd__law_pick, ps__law_pick, [], [], He.glo_ok X G (c.t.d.fact 36 (f := .glo "_law_pick") rfl), F__law_pick.kp, F__law_pick.bindsN fun _ _ _ _ _ _ us hl => match us, hl with | [_, _], _ => rfl, .nil, fun _ => .nil, ok__law_pick⟩
  have G__law_well : Fnd P w K mg base "_law_well" 1 [] (C__law_well (clK K)) 1 := ⟨_, fd__law_well, ps__law_well, [], [], He.glo_ok X G (c.t.d.fact 34 (f := .glo "_law_well") rfl), F__law_well.kp, F__law_well.bindsN fun _ _ _ _ _ _ us hl => match us, hl with | [_], _ => rfl, .nil, fun _ => .nil, ok__law_well⟩
  have ok_law : FnOk P w K mg base CX0 12 _ fd_law ps_law (liftC K (C_law88 (clK K))) := ok_law B G__law_words G__law_right G__law_honest_right G__law_pick G__law_draw G__law_well F_law
  exact ok_law
end K88
open PySem PySem.W PySem.Calls PyProof.Rows
theorem PySem.Challenge.cw_askedorder_k88_heaps_by_any_answers_holds : PySem.Challenge.rw_askedorder_k88_heaps_by_any_answers.Holds := by
  w_on; o_law
  refine HandSHeadRun.head_any (r := OpenLaw.row PySem.Challenge.rw_askedorder_k88_heaps_by_any_answers) (q := view (OpenLaw.row PySem.Challenge.rw_askedorder_k88_heaps_by_any_answers).prog [47]) (H := K88.hk) (ob := K88.ob) (M := 6000) (loose := K88.loose) (d := HandSHeadRun.topDef (OpenLaw.row PySem.Challenge.rw_askedorder_k88_heaps_by_any_answers).prog 47) (kwd := []) K88.ob_eq
    (by kernel_rfl) (fun s => by kernel_rfl) K88.run (by kernel_rfl) (by kernel_rfl) (by kernel_rfl) (by rfl) (by first | assumption | decide +kernel) (by decide +kernel) ⟨rfl, rfl, rfl, rfl, rfl, by decide +kernel⟩ ?hw ?hc
  case hw => w_witness2
  case hc =>
    refine LamX.walk_ofTsE (l := PySem.Challenge.rw_askedorder_k88_heaps_by_any_answers) (n := 63) (k := 12) (x := "script") (CX := fun _ => L2.CX0) rfl (by decide) (by kernel_rfl) ⟨rfl, by decide, by decide⟩ ?F (fun _ _ _ _ _ z => z)
    intro w mg fa h Y G hmg0
    obtain ⟨K, KX, c⟩ := Y
    have hmg : mg ("law" : PySem.Str) = some (.ref fa) := by
      have e : (HandSHeadRun.topDef (OpenLaw.row PySem.Challenge.rw_askedorder_k88_heaps_by_any_answers).prog 47).name = ("law" : PySem.Str) := by kernel_rfl
      rw [← e]
      exact hmg0
    obtain ⟨fd, hb, hF⟩ := K88.facts (P := (PySem.Challenge.rw_askedorder_k88_heaps_by_any_answers).prog) (w := w) KX G hmg c
    have hat : ∀ p ∈ ([("_law_right", none)] : List He.Defn), p ∈ DL.lamNames := by decide +kernel
    refine ⟨K, KX, fd, ([("_law_right", none)] : List He.Defn).map (He.cT K), DL.liftC K (DL.C_law88 (K88.clK K)), fun p hp => ?_, fun p hp => ?_, fun p hp => ?_, hb, fun H a ns hl hbits hT hS => ?_, hF⟩
    · obtain ⟨q, hq, rfl⟩ := List.mem_map.mp hp
      exact c.empty q hq
    · obtain ⟨q, hq, rfl⟩ := List.mem_map.mp hp
      exact c.out q hq
    · obtain ⟨q, hq, rfl⟩ := List.mem_map.mp hp
      exact PySem.W.codeHd_of_K KX (c.hd q hq)
    · have hT2 : ∀ q ∈ ([("_law_right", none)] : List He.Defn), DL.TabG (K88.clK K) q H := fun q hq => DL.tabG_start (hT _ (List.mem_map.mpr ⟨q, hq, rfl⟩))
      have st : ∀ q ∈ ([("_law_right", none)] : List He.Defn), ∀ H1 H2, DL.TabG (K88.clK K) q H1 → DL.TK K H1 H2 → DL.TabG (K88.clK K) q H2 := fun q hq => DL.TabG.st rfl (hat q hq)
      exact DL.law_startT (PP := DL.TabG (K88.clK K) DL.at88) (g := 0) (hT2 _ (by decide +kernel)) (st _ (by decide +kernel)) hS fun o ho => ⟨a, ns, rfl, by rcases ho with rfl | rfl <;> simp, ⟨by omega, fun as => ⟨(by have cm := c.more; simp only [K88.ex, Bool.and_eq_true] at cm; exact of_decide_eq_true cm.2), (show DL.XT.paused ∈ K88.xtsK by decide)⟩, (show DL.XT.answers ∈ K88.xtsK by decide)⟩, rfl⟩
