import PyProof.Rows.All
import Wide.All
import OpenK.AllK
import Wide.FinOn
import HandS.ForMost
import HandS.Exc
import HandS.ExcOwn
import HandS.TryOnly
import HandS.TryMany
import HandS.WordsExc
import HandS.SortKw
import HandS.SortInts
import HandS.Wide
import HandS.WideMore
import HandS.WideBits
import HandS.Defaults
import HandS.Flow
import HandS.Style
import HandS.Conv
import HandS.Lambda
import HandS.Head0
import HandS.Head1
import HandS.Head2
import HandS.Head3
import HandS.HeadEnd
import HandS.HeadHook1
import HandS.HeadHook2
import HandS.HeadHook3
import HandS.HeadHook4
import HandS.TupAny
import HandS.IsInst
import HandS.Star
import HandS.RevRange
import KE.GoesMore
import HandS.Zip
import PySem.Challenge.RW_askedorder_k77_questions_of_falling_stre
set_option Elab.async false
set_option linter.all false
set_option maxRecDepth 100000
set_option maxHeartbeats 0
set_option autoImplicit false
/-! DL: values as trees, a symbolic heap by a list of places, over the hand layer. -/
namespace DL
open PySem PySem.Spec PyProof.Rows L2

/-- a value; tuples are trees -/
inductive D where
  | non | bl (b : Bool) | int (i : Int) | str (x : Str) | ref (a : Addr) | ty (n : String) | tup (ds : List D)

mutual
inductive DR (K : PySem.W.Frag) (H : Hp) : D → V → Prop
  | non : DR K H .non .non
  | bl {b} : DR K H (.bl b) (.bl b)
  | int {i} : DR K H (.int i) (.int i)
  | str {x} : DR K H (.str x) (.str x)
  | ref {a} : DR K H (.ref a) (.ref a)
  | ty {n} : DR K H (.ty n) (.ty n)
  | tup {ds vs a} : SqT K H a vs → DRs K H ds vs → DR K H (.tup ds) (.ref a)
inductive DRs (K : PySem.W.Frag) (H : Hp) : List D → List V → Prop
  | nil : DRs K H [] []
  | cons {d v ds vs} : DR K H d v → DRs K H ds vs → DRs K H (d :: ds) (v :: vs)
end
/-- tuples stay -/
def TK (K : PySem.W.Frag) (H H' : Hp) : Prop := ∀ a vs, SqT K H a vs → SqT K H' a vs
theorem TK.refl {K H} : TK K H H := fun _ _ h => h
theorem TK.trans {K H H1 H2} (a : TK K H H1) (b : TK K H1 H2) : TK K H H2 := fun _ _ h => b _ _ (a _ _ h)
section
variable {K : PySem.W.Frag} {H H' : Hp}
mutual
theorem DR.mono (t : TK K H H') : ∀ {d : D} {v : V}, DR K H d v → DR K H' d v
  | _, _, .non => .non
  | _, _, .bl => .bl
  | _, _, .int => .int
  | _, _, .str => .str
  | _, _, .ref => .ref
  | _, _, .ty => .ty
  | _, _, .tup s r => .tup (t _ _ s) (DRs.mono t r)
theorem DRs.mono (t : TK K H H') : ∀ {ds : List D} {vs : List V}, DRs K H ds vs → DRs K H' ds vs
  | _, _, .nil => .nil
  | _, _, .cons a b => .cons (DR.mono t a) (DRs.mono t b)
end
theorem DRs.length : ∀ {ds : List D} {vs : List V}, DRs K H ds vs → ds.length = vs.length
  | _, _, .nil => rfl
  | _, _, .cons _ b => congrArg Nat.succ (DRs.length b)
theorem DRs.append : ∀ {ds es : List D} {vs us : List V}, DRs K H ds vs → DRs K H es us → DRs K H (ds ++ es) (vs ++ us)
  | _, _, _, _, .nil, b => b
  | _, _, _, _, .cons a r, b => .cons a (DRs.append r b)
theorem DRs.get : ∀ {ds : List D} {vs : List V} {i : Nat} {d : D}, DRs K H ds vs → ds[i]? = some d → ∃ v, vs[i]? = some v ∧ DR K H d v
  | _, _, _, _, .nil, e => by simp at e
  | _, _, 0, _, .cons r _, e => by simp at e; subst e; exact ⟨_, rfl, r⟩
  | _, _, i + 1, _, .cons _ t, e => by
    obtain ⟨u, h1, h2⟩ := DRs.get (i := i) t (by simpa using e)
    exact ⟨u, by simpa using h1, h2⟩
theorem DRs.get' : ∀ {ds : List D} {vs : List V} {i : Nat} {v : V}, DRs K H ds vs → vs[i]? = some v → ∃ d, ds[i]? = some d ∧ DR K H d v
  | _, _, _, _, .nil, e => by simp at e
  | _, _, 0, _, .cons r _, e => by simp at e; subst e; exact ⟨_, rfl, r⟩
  | _, _, i + 1, _, .cons _ t, e => by
    obtain ⟨u, h1, h2⟩ := DRs.get' (i := i) t (by simpa using e)
    exact ⟨u, by simpa using h1, h2⟩
theorem DRs.set {d : D} {v : V} (r : DR K H d v) : ∀ {ds : List D} {vs : List V} (i : Nat), DRs K H ds vs → DRs K H (ds.set i d) (vs.set i v)
  | _, _, _, .nil => .nil
  | _, _, 0, .cons _ t => .cons r t
  | _, _, i + 1, .cons q t => .cons q (DRs.set r i t)
theorem DRs.take : ∀ {ds : List D} {vs : List V} (n : Nat), DRs K H ds vs → DRs K H (ds.take n) (vs.take n)
  | _, _, 0, _ => .nil
  | _, _, _ + 1, .nil => .nil
  | _, _, n + 1, .cons r t => .cons r (DRs.take n t)
theorem DRs.drop : ∀ {ds : List D} {vs : List V} (n : Nat), DRs K H ds vs → DRs K H (ds.drop n) (vs.drop n)
  | _, _, 0, r => r
  | _, _, _ + 1, .nil => .nil
  | _, _, n + 1, .cons r t => DRs.drop n t
theorem DRs.reverse : ∀ {ds : List D} {vs : List V}, DRs K H ds vs → DRs K H ds.reverse vs.reverse
  | _, _, .nil => .nil
  | _, _, .cons a b => by
    rw [List.reverse_cons, List.reverse_cons]
    exact (DRs.reverse b).append (.cons a .nil)
theorem DRs.ints : ∀ (xs : List Int), DRs K H (xs.map D.int) (xs.map V.int)
  | [] => .nil
  | _ :: r => .cons .int (DRs.ints r)
theorem DRs.ints' : ∀ {xs : List Int} {vs : List V}, DRs K H (xs.map D.int) vs → vs = xs.map V.int
  | [], _, .nil => rfl
  | _ :: _, _, .cons .int r => by rw [DRs.ints' r]; rfl
end

/-! ### names of attributes: numbers -/
def fnamesS : List String := ["marks", "log", "answers", "pair", "row", "is_turned", "asker", "joiner", "stack", "steps", "busy", "many", "words", "counts", "shapes", "ways", "parts", "calm", "found", "joins", "index", "name", "question", "answer", "count", "limit", "left", "one", "other", "span", "aside", "line", "sorts", "sorting", "base", "gone", "has_more", "is_forward", "sorter", "tallied", "things", "whole"]
def fnames : List Str := fnamesS.map PySem.Str.ofString
def fname (i : Nat) : Str := fnames.getD i ""
theorem fnames_nd : fnames.Nodup := by decide +kernel
theorem fname_inj {i j : Nat} (hi : i < fnames.length) (hj : j < fnames.length) (e : fname i = fname j) : i = j := by
  have h1 : fnames[i]? = some (fname i) := by unfold fname; simp [List.getD, List.getElem?_eq_getElem hi]
  have h2 : fnames[j]? = some (fname j) := by unfold fname; simp [List.getD, List.getElem?_eq_getElem hj]
  rw [e] at h1
  exact nd_ix fnames_nd h1 h2
/-- the attributes of an instance -/
inductive FRs (K : PySem.W.Frag) (H : Hp) : List (Nat × D) → List (Str × V) → Prop
  | nil : FRs K H [] []
  | cons {i d v fs gs} : i < fnames.length → DR K H d v → FRs K H fs gs → FRs K H ((i, d) :: fs) ((fname i, v) :: gs)
def putN (i : Nat) (d : D) : List (Nat × D) → List (Nat × D)
  | [] => [(i, d)]
  | (j, e) :: r => match Nat.beq j i with
    | true => (j, d) :: r
    | false => (j, e) :: putN i d r
def getN (i : Nat) : List (Nat × D) → Option D
  | [] => none
  | (j, e) :: r => match Nat.beq j i with
    | true => some e
    | false => getN i r
section
variable {K : PySem.W.Frag} {H H' : Hp}
theorem FRs.mono (t : TK K H H') : ∀ {fs gs}, FRs K H fs gs → FRs K H' fs gs
  | _, _, .nil => .nil
  | _, _, .cons hi a b => .cons hi (a.mono t) (FRs.mono t b)
theorem FRs.length : ∀ {fs gs}, FRs K H fs gs → fs.length = gs.length
  | _, _, .nil => rfl
  | _, _, .cons _ _ b => congrArg Nat.succ (FRs.length b)
theorem FRs.get {i : Nat} (hi : i < fnames.length) : ∀ {fs gs} {d : D}, FRs K H fs gs → getN i fs = some d → ∃ v, gs.lookup (fname i) = some v ∧ DR K H d v
  | _, _, _, .nil, e => by cases e
  | (j, x) :: r, _, d, .cons (v := v) (gs := gs) hj a b, e => by
    unfold getN at e
    cases q : Nat.beq j i with
    | true =>
      rw [q] at e
      have e1 : j = i := Nat.eq_of_beq_eq_true q
      have e2 : x = d := Option.some.inj e
      subst e1 e2
      exact ⟨v, by simp [List.lookup], a⟩
    | false =>
      rw [q] at e
      obtain ⟨v', h1, h2⟩ := FRs.get hi b e
      refine ⟨v', ?_, h2⟩
      have ne : fname i ≠ fname j := fun z => by
        have := fname_inj hi hj z
        subst this
        rw [Nat.beq_refl] at q
        cases q
      have : (fname i == fname j) = false := by simpa using ne
      rw [List.lookup, this]
      exact h1
theorem FRs.none_of {m : Str} (hm : ∀ i, i < fnames.length → fname i ≠ m) : ∀ {fs gs}, FRs K H fs gs → gs.lookup m = none
  | _, _, .nil => rfl
  | _, _, .cons (i := j) hj a b => by
    have : (m == fname j) = false := by simpa using (hm j hj).symm
    rw [List.lookup, this]
    exact FRs.none_of hm b
theorem putF_nil (f : Str) (v : V) : putF f v [] = [(f, v)] := rfl
theorem putF_cons (f g : Str) (v u : V) (r : List (Str × V)) : putF f v ((g, u) :: r) = if g = f then (g, v) :: r else (g, u) :: putF f v r := by
  rfl
theorem FRs.put {i : Nat} (hi : i < fnames.length) {d : D} {v : V} (rv : DR K H d v) : ∀ {fs gs}, FRs K H fs gs → FRs K H (putN i d fs) (putF (fname i) v gs)
  | _, _, .nil => .cons hi rv .nil
  | (j, x) :: r, _, .cons (v := u) (gs := gs) hj a b => by
    unfold putN
    rw [putF_cons]
    cases q : Nat.beq j i with
    | true =>
      have e1 : j = i := Nat.eq_of_beq_eq_true q
      subst e1
      rw [if_pos rfl]
      exact .cons hj rv b
    | false =>
      have ne : fname j ≠ fname i := fun z => by
        have := fname_inj hj hi z
        subst this
        rw [Nat.beq_refl] at q
        cases q
      rw [if_neg ne]
      exact .cons hj a (FRs.put hi rv b)
end

/-! ### the symbolic heap -/
inductive LO where
  | lst (ds : List D)
  | ro (ds : List D)
  | ins (C : Addr) (fs : List (Nat × D))
  | dk (kvs : List (Key × D))
  | dt (kvs : List (List Key × D))
abbrev LL := List (Addr × LO)
abbrev Sl := List (Option D)
def isRw : LO → Bool
  | .ro _ => false
  | _ => true
inductive KVs (K : PySem.W.Frag) (H : Hp) {κ : Type} : List (κ × D) → List (κ × V) → Prop
  | nil : KVs K H [] []
  | cons {k d v fs gs} : DR K H d v → KVs K H fs gs → KVs K H ((k, d) :: fs) ((k, v) :: gs)
theorem KVs.mono {κ : Type} {K : PySem.W.Frag} {H H' : Hp} (t : TK K H H') : ∀ {fs : List (κ × D)} {gs}, KVs K H fs gs → KVs K H' fs gs
  | _, _, .nil => .nil
  | _, _, .cons a b => .cons (a.mono t) (KVs.mono t b)
/-- a list of the written part -/
def KL (K : PySem.W.Frag) (a : Addr) (xs : List V) : Prop :=
  ∃ (o : Obj) (its : Array Value) (n : Nat), K.lookup a = some o ∧ o.cls = .type "list" ∧ o.dict = none ∧ o.data = .seq its n ∧ its.size ≤ sizeLine ∧ Vals xs its.toList
/-- what stands at a is o -/
def OKo (K : PySem.W.Frag) (H : Hp) (a : Addr) : LO → Prop
  | .lst ds => ∃ vs, H a = some (.lst vs) ∧ DRs K H ds vs
  | .ro ds => ∃ vs, ((∃ o, H a = some (.frz o (.lst vs))) ∨ KL K a vs) ∧ DRs K H ds vs
  | .ins C fs => ∃ dx gs, H a = some (.ins C dx gs) ∧ FRs K H fs gs
  | .dk kvs => ∃ gs, H a = some (.dK gs) ∧ KVs K H kvs gs
  | .dt kvs => ∃ gs, H a = some (.dT gs) ∧ KVs K H kvs gs
structure HL (K : PySem.W.Frag) (H : Hp) (L : LL) : Prop where
  ok : ∀ p ∈ L, OKo K H p.1 p.2
  nd : L.Pairwise fun p q => isRw p.2 = true → isRw q.2 = true → p.1 ≠ q.1
inductive Sel : LL → Addr → LO → LL → Prop
  | here {a o L} : Sel ((a, o) :: L) a o L
  | there {x L a o L'} : Sel L a o L' → Sel (x :: L) a o (x :: L')
inductive Has : LL → Addr → LO → Prop
  | here {a o L} : Has ((a, o) :: L) a o
  | there {x L a o} : Has L a o → Has (x :: L) a o
inductive Chg : LL → Addr → LO → LO → LL → Prop
  | here {a o o' L} : Chg ((a, o) :: L) a o o' ((a, o') :: L)
  | there {x L a o o' L'} : Chg L a o o' L' → Chg (x :: L) a o o' (x :: L')
/-- L holds all that M holds -/
inductive Cov : LL → LL → Prop
  | refl {L} : Cov L L
  | drop {x L M} : Cov L M → Cov (x :: L) M
  | take {L a o o' L1 M} : Sel L a o' L1 → o' = o → Cov L1 M → Cov L ((a, o) :: M)
theorem Sel.perm {L a o L'} (h : Sel L a o L') : L.Perm ((a, o) :: L') := by
  induction h with
  | here => exact .refl _
  | there _ ih => exact (List.Perm.cons _ ih).trans (.swap _ _ _)
theorem Has.mem {L a o} (h : Has L a o) : (a, o) ∈ L := by
  induction h with
  | here => exact List.mem_cons_self
  | there _ ih => exact List.mem_cons_of_mem _ ih
theorem Has.of_mem {a o} : ∀ {L : LL}, (a, o) ∈ L → Has L a o
  | [], h => by cases h
  | x :: r, h => by
    rcases List.mem_cons.mp h with e | h
    · subst e; exact .here
    · exact .there (Has.of_mem h)
theorem HL.perm {K H L L'} (h : HL K H L) (p : L.Perm L') : HL K H L' :=
  ⟨fun q hq => h.ok q (p.mem_iff.mpr hq), (p.pairwise_iff (fun {x y} z h1 h2 => (z h2 h1).symm)).mp h.nd⟩
theorem HL.tail {K H x L} (h : HL K H (x :: L)) : HL K H L := ⟨fun q hq => h.ok q (List.mem_cons_of_mem _ hq), (List.pairwise_cons.mp h.nd).2⟩
theorem Cov.perm {L M} (c : Cov L M) : ∃ G, L.Perm (M ++ G) := by
  induction c with
  | refl => exact ⟨[], by simp⟩
  | @drop x L M _ ih =>
    obtain ⟨G, p⟩ := ih
    exact ⟨x :: G, (List.Perm.cons _ p).trans List.perm_middle.symm⟩
  | take s e _ ih =>
    obtain ⟨G, p⟩ := ih
    subst e
    exact ⟨G, s.perm.trans (List.Perm.cons _ p)⟩
theorem HL.left {K H G} : ∀ {M}, HL K H (M ++ G) → HL K H M := fun {M} h =>
  ⟨fun q hq => h.ok q (List.mem_append_left _ hq), (List.pairwise_append.mp h.nd).1⟩
theorem HL.cov {K H L M} (h : HL K H L) (c : Cov L M) : HL K H M := by
  obtain ⟨G, p⟩ := c.perm
  exact (h.perm p).left
theorem Cov.has {L M a o} (c : Cov L M) (h : Has M a o) : Has L a o := by
  obtain ⟨G, p⟩ := c.perm
  exact .of_mem (p.mem_iff.mpr (List.mem_append_left _ h.mem))
section
variable {K : PySem.W.Frag} {H H' : Hp} {L L' : LL} {a : Addr} {o o' : LO}
theorem HL.has (h : HL K H L) (s : Has L a o) : OKo K H a o := h.ok _ s.mem
theorem OKo.there (h : OKo K H a o) (r : isRw o = true) : ∃ u, H a = some u := by
  cases o with
  | ro ds => cases r
  | lst ds => obtain ⟨vs, e, _⟩ := h; exact ⟨_, e⟩
  | ins C fs => obtain ⟨dx, gs, e, _⟩ := h; exact ⟨_, e⟩
  | dk kvs => obtain ⟨gs, e, _⟩ := h; exact ⟨_, e⟩
  | dt kvs => obtain ⟨gs, e, _⟩ := h; exact ⟨_, e⟩
/-- a rw object elsewhere, or a ro one, over a change at b where something rw stood -/
theorem OKo.step (h : OKo K H a o) (t : TK K H H') (e : ∀ u, H a = some u → H' a = some u) : OKo K H' a o := by
  cases o with
  | ro ds =>
    obtain ⟨vs, h, r⟩ := h
    refine ⟨vs, ?_, r.mono t⟩
    rcases h with ⟨ob, h⟩ | h
    · exact .inl ⟨ob, e _ h⟩
    · exact .inr h
  | lst ds => obtain ⟨vs, h, r⟩ := h; exact ⟨vs, e _ h, r.mono t⟩
  | ins C fs => obtain ⟨dx, gs, h, r⟩ := h; exact ⟨dx, gs, e _ h, r.mono t⟩
  | dk kvs => obtain ⟨gs, h, r⟩ := h; exact ⟨gs, e _ h, r.mono t⟩
  | dt kvs => obtain ⟨gs, h, r⟩ := h; exact ⟨gs, e _ h, r.mono t⟩
end
end DL

namespace DL
open PySem PySem.Spec PyProof.Rows L2
section
variable {K : PySem.W.Frag} {H H' : Hp} {L L' : LL} {a p : Addr} {o o' : LO} {ho ho' : HO}
theorem TK.new (hp : H p = none) : TK K H (upd H p ho) := fun a vs h => by
  rcases h with (h | ⟨ob, h⟩) | h
  · exact .inl (.inl (by rw [upd_ne (ne_of_none h hp)]; exact h))
  · exact .inl (.inr ⟨ob, by rw [upd_ne (ne_of_none h hp)]; exact h⟩)
  · exact .inr h
theorem ne_mut {b : Addr} {u : HO} (h : H a = some ho) (m : Mut (some ho)) (hb : H b = some u) (n : ¬ Mut (some u)) : b ≠ a := fun e => by
  subst e
  rw [h] at hb
  cases hb
  exact n m
theorem TK.chg (h : H a = some ho) (m : Mut (some ho)) : TK K H (upd H a ho') := fun b vs q => by
  rcases q with (q | ⟨ob, q⟩) | q
  · exact .inl (.inl (by rw [upd_ne (ne_mut h m q (fun z => z))]; exact q))
  · exact .inl (.inr ⟨ob, by rw [upd_ne (ne_mut h m q (fun z => z))]; exact q⟩)
  · exact .inr q
theorem OKo.new {b : Addr} (h : OKo K H b o) (hp : H p = none) : OKo K (upd H p ho) b o := h.step (TK.new hp) fun u e => by rw [upd_ne (ne_of_none e hp)]; exact e
theorem OKo.chg {b : Addr} (h : OKo K H b o) (ha : H a = some ho) (m : Mut (some ho)) (ne : isRw o = true → b ≠ a) : OKo K (upd H a ho') b o := by
  have t : TK K H (upd H a ho') := TK.chg ha m
  cases o with
  | ro ds =>
    obtain ⟨vs, h, r⟩ := h
    refine ⟨vs, ?_, r.mono t⟩
    rcases h with ⟨ob, h⟩ | h
    · exact .inl ⟨ob, by rw [upd_ne (ne_mut ha m h (fun z => z))]; exact h⟩
    · exact .inr h
  | lst ds => obtain ⟨vs, h, r⟩ := h; exact ⟨vs, by rw [upd_ne (ne rfl)]; exact h, r.mono t⟩
  | ins C fs => obtain ⟨dx, gs, h, r⟩ := h; exact ⟨dx, gs, by rw [upd_ne (ne rfl)]; exact h, r.mono t⟩
  | dk kvs => obtain ⟨gs, h, r⟩ := h; exact ⟨gs, by rw [upd_ne (ne rfl)]; exact h, r.mono t⟩
  | dt kvs => obtain ⟨gs, h, r⟩ := h; exact ⟨gs, by rw [upd_ne (ne rfl)]; exact h, r.mono t⟩
theorem HL.mono_new (h : HL K H L) (hp : H p = none) : HL K (upd H p ho) L := ⟨fun q hq => (h.ok q hq).new hp, h.nd⟩
theorem HL.new (h : HL K H L) (hp : H p = none) (ok : OKo K (upd H p ho) p o) : HL K (upd H p ho) ((p, o) :: L) := by
  refine ⟨fun q hq => ?_, List.pairwise_cons.mpr ⟨fun q hq _ r z => ?_, h.nd⟩⟩
  · rcases List.mem_cons.mp hq with e | hq
    · subst e; exact ok
    · exact (h.ok q hq).new hp
  · obtain ⟨u, e⟩ := (h.ok q hq).there r
    have z' : p = q.1 := z
    rw [← z', hp] at e
    cases e
theorem Chg.sel (c : Chg L a o o' L') : ∃ L0, L.Perm ((a, o) :: L0) ∧ L'.Perm ((a, o') :: L0) := by
  induction c with
  | here => exact ⟨_, .refl _, .refl _⟩
  | there _ ih =>
    obtain ⟨L0, p, q⟩ := ih
    exact ⟨_ :: L0, (List.Perm.cons _ p).trans (.swap _ _ _), (List.Perm.cons _ q).trans (.swap _ _ _)⟩
theorem Chg.has (c : Chg L a o o' L') : Has L a o := by
  induction c with
  | here => exact .here
  | there _ ih => exact .there ih
theorem HL.chg (h : HL K H L) (c : Chg L a o o' L') (ro : isRw o = true) (ha : H a = some ho) (m : Mut (some ho)) (ok : OKo K (upd H a ho') a o') : HL K (upd H a ho') L' := by
  obtain ⟨L0, p, q⟩ := c.sel
  have h0 := h.perm p
  obtain ⟨n1, n2⟩ := List.pairwise_cons.mp h0.nd
  have h1 : HL K (upd H a ho') ((a, o') :: L0) := by
    refine ⟨fun x hx => ?_, List.pairwise_cons.mpr ⟨fun x hx _ r => n1 x hx ro r, n2⟩⟩
    rcases List.mem_cons.mp hx with e | hx
    · subst e; exact ok
    · exact (h0.ok x (List.mem_cons_of_mem _ hx)).chg ha m fun r => (n1 x hx ro r).symm
  exact h1.perm q.symm
theorem HL.lst {ds : List D} (h : HL K H L) (s : Has L a (.lst ds)) : ∃ vs, H a = some (.lst vs) ∧ DRs K H ds vs := h.has s
/-- a list that is read: rw or ro -/
def HasL (L : LL) (a : Addr) (ds : List D) : Prop := Has L a (.lst ds) ∨ Has L a (.ro ds)
theorem HL.seq {ds : List D} (h : HL K H L) (s : HasL L a ds) : ∃ vs, SqL K H a vs ∧ DRs K H ds vs := by
  rcases s with s | s
  · obtain ⟨vs, e, r⟩ := h.has s
    exact ⟨vs, .inl (.inl e), r⟩
  · obtain ⟨vs, e, r⟩ := h.has s
    refine ⟨vs, ?_, r⟩
    rcases e with ⟨ob, e⟩ | e
    · exact .inl (.inr ⟨ob, e⟩)
    · exact .inr e
end

/-! ### lifts -/
abbrev DK := D → LL → Prop
abbrev TE' := Sl → LL → DK → Prop
abbrev TT' := Sl → LL → (LL → Prop) → (LL → Prop) → Prop
abbrev TA' := Sl → LL → (List D → LL → Prop) → Prop
structure EndsD where
  nx : Sl → LL → Prop
  rt : DK
  bk : Sl → LL → Prop := fun _ _ => False
  ct : Sl → LL → Prop := fun _ _ => False
abbrev TS' := EndsD → Sl → LL → Prop
inductive SR (K : PySem.W.Frag) (H : Hp) : Sl → L2.St → Prop
  | nil : SR K H [] []
  | no {x σd σ} : SR K H σd σ → SR K H (none :: σd) (x :: σ)
  | yes {d v σd σ} : DR K H d v → SR K H σd σ → SR K H (some d :: σd) (some v :: σ)
def Kont (K : PySem.W.Frag) (H : Hp) (Φ : DK) (Q : VK) : Prop := ∀ d L v H', Φ d L → TK K H H' → DR K H' d v → HL K H' L → Q v H'
def KontB (K : PySem.W.Frag) (H : Hp) (T F : LL → Prop) (Q : Bool → Hp → Prop) : Prop := (∀ L H', T L → TK K H H' → HL K H' L → Q true H') ∧ (∀ L H', F L → TK K H H' → HL K H' L → Q false H')
def KontA (K : PySem.W.Frag) (H : Hp) (Φ : List D → LL → Prop) (Q : List V → Hp → Prop) : Prop := ∀ ds L vs H', Φ ds L → TK K H H' → DRs K H' ds vs → HL K H' L → Q vs H'
structure EK (K : PySem.W.Frag) (H : Hp) (D' : EndsD) (D : Ends) : Prop where
  nx : ∀ σd L σ H', D'.nx σd L → TK K H H' → SR K H' σd σ → HL K H' L → D.nx σ H'
  rt : ∀ d L v H', D'.rt d L → TK K H H' → DR K H' d v → HL K H' L → D.rt v H'
  bk : ∀ σd L σ H', D'.bk σd L → TK K H H' → SR K H' σd σ → HL K H' L → D.bk σ H'
  ct : ∀ σd L σ H', D'.ct σd L → TK K H H' → SR K H' σd σ → HL K H' L → D.ct σ H'
section
variable {K : PySem.W.Frag} {H H1 : Hp}
theorem SR.mono (t : TK K H H1) : ∀ {σd σ}, SR K H σd σ → SR K H1 σd σ
  | _, _, .nil => .nil
  | _, _, .no r => .no (SR.mono t r)
  | _, _, .yes a r => .yes (a.mono t) (SR.mono t r)
theorem SR.set {d : D} {v : V} (r : DR K H d v) : ∀ {σd σ} (i : Nat), SR K H σd σ → SR K H (σd.set i (some d)) (σ.set i (some v))
  | _, _, _, .nil => .nil
  | _, _, 0, .no q => .yes r q
  | _, _, 0, .yes _ q => .yes r q
  | _, _, i + 1, .no q => .no (SR.set r i q)
  | _, _, i + 1, .yes a q => .yes a (SR.set r i q)
theorem Kont.mono {Φ Q} (t : TK K H H1) (k : Kont K H Φ Q) : Kont K H1 Φ Q := fun d L v H' h t1 r l => k d L v H' h (t.trans t1) r l
theorem KontB.mono {T F Q} (t : TK K H H1) (k : KontB K H T F Q) : KontB K H1 T F Q := ⟨fun L H' h t1 l => k.1 L H' h (t.trans t1) l, fun L H' h t1 l => k.2 L H' h (t.trans t1) l⟩
theorem KontA.mono {Φ Q} (t : TK K H H1) (k : KontA K H Φ Q) : KontA K H1 Φ Q := fun d L v H' h t1 r l => k d L v H' h (t.trans t1) r l
theorem EK.mono {D' D} (t : TK K H H1) (k : EK K H D' D) : EK K H1 D' D :=
  ⟨fun a b c d h t1 => k.nx a b c d h (t.trans t1), fun a b c d h t1 => k.rt a b c d h (t.trans t1), fun a b c d h t1 => k.bk a b c d h (t.trans t1), fun a b c d h t1 => k.ct a b c d h (t.trans t1)⟩
end
def liftE (K : PySem.W.Frag) (t : TE') : TE := fun σ H Q => ∃ σd L Φ, SR K H σd σ ∧ HL K H L ∧ t σd L Φ ∧ Kont K H Φ Q
def liftT (K : PySem.W.Frag) (t : TT') : TT := fun σ H Q => ∃ σd L T F, SR K H σd σ ∧ HL K H L ∧ t σd L T F ∧ KontB K H T F Q
def liftA (K : PySem.W.Frag) (t : TA') : TA := fun σ H Q => ∃ σd L Φ, SR K H σd σ ∧ HL K H L ∧ t σd L Φ ∧ KontA K H Φ Q
def liftS (K : PySem.W.Frag) (t : TS') : TS := fun D σ H => ∃ σd L D', SR K H σd σ ∧ HL K H L ∧ t D' σd L ∧ EK K H D' D
abbrev PE' (X : Cx) (e : Expr) (t : TE') : Prop := PE X e (liftE X.K t)
abbrev PT' (X : Cx) (e : Expr) (t : TT') : Prop := PT X e (liftT X.K t)
abbrev PA' (X : Cx) (es : List Expr) (t : TA') : Prop := PA X es (liftA X.K t)
abbrev PS' (X : Cx) (st : Stmt) (t : TS') : Prop := PS X st (liftS X.K t)
abbrev PSs' (X : Cx) (st : List Stmt) (t : TS') : Prop := PSs X st (liftS X.K t)
section
variable {X : Cx} {e : Expr} {es : List Expr} {st : Stmt} {sts : List Stmt}
theorem lE {t : TE} {t' : TE'} (h : PE X e t) (f : ∀ σ H Q, liftE X.K t' σ H Q → t σ H Q) : PE' X e t' := ⟨fun pins s σ H Q I q => h.run pins s σ H Q I (f σ H Q q)⟩
theorem lT {t : TT} {t' : TT'} (h : PT X e t) (f : ∀ σ H Q, liftT X.K t' σ H Q → t σ H Q) : PT' X e t' := ⟨fun pins s σ H Q I q => h.run pins s σ H Q I (f σ H Q q)⟩
theorem lA {t : TA} {t' : TA'} (h : PA X es t) (f : ∀ σ H Q, liftA X.K t' σ H Q → t σ H Q) : PA' X es t' := ⟨fun pos pins s σ H Q I q => h.run pos pins s σ H Q I (f σ H Q q)⟩
theorem lS {t : TS} {t' : TS'} (h : PS X st t) (f : ∀ D σ H, liftS X.K t' D σ H → t D σ H) : PS' X st t' := ⟨fun pins s σ H D I q => h.run pins s σ H D I (f D σ H q)⟩
theorem lSs {t : TS} {t' : TS'} (h : PSs X sts t) (f : ∀ D σ H, liftS X.K t' D σ H → t D σ H) : PSs' X sts t' := ⟨fun pins s σ H D I q => h.run pins s σ H D I (f D σ H q)⟩
end

/-! ### names, constants -/
def Nth : Sl → Nat → (D → Prop) → Prop
  | [], _, _ => False
  | none :: _, 0, _ => False
  | some d :: _, 0, k => k d
  | _ :: r, n + 1, k => Nth r n k
theorem Nth.get {K H} {k : D → Prop} : ∀ {σd σ} {i : Nat}, SR K H σd σ → Nth σd i k → ∃ d v, σ[i]? = some (some v) ∧ DR K H d v ∧ k d
  | _, _, _, .nil, h => by cases ‹Nat› <;> exact h.elim
  | _, _, 0, .no _, h => h.elim
  | _, _, 0, .yes r _, h => ⟨_, _, rfl, r, h⟩
  | _, _, i + 1, .no q, h => by
    obtain ⟨d, v, a, b, c⟩ := Nth.get (i := i) q h
    exact ⟨d, v, by simpa using a, b, c⟩
  | _, _, i + 1, .yes _ q, h => by
    obtain ⟨d, v, a, b, c⟩ := Nth.get (i := i) q h
    exact ⟨d, v, by simpa using a, b, c⟩
def tVar' (i : Nat) : TE' := fun σ L Φ => Nth σ i fun d => Φ d L
def tC' (d : D) : TE' := fun _ L Φ => Φ d L
section
variable {X : Cx} {pos : Pos} {x : Str}
theorem l_var {i : Nat} (h : PE X (.Name x pos) (tVar i)) : PE' X (.Name x pos) (tVar' i) := lE h fun σ H Q ⟨σd, L, Φ, hs, hl, ht, k⟩ => by
  obtain ⟨d, v, e, r, q⟩ := Nth.get hs ht
  exact ⟨v, e, k d L v H q .refl r hl⟩
theorem l_c {e : Expr} {d : D} {v : V} (h : PE X e (tC v)) (r : ∀ H, DR X.K H d v) : PE' X e (tC' d) := lE h fun σ H Q ⟨σd, L, Φ, hs, hl, ht, k⟩ => k d L v H ht .refl (r H) hl
theorem pv' (i : Nat) (hN : X.N[i]? = some x := by rfl) (hv : Vis X.env.scope x := by first | exact Or.inl rfl | exact Or.inr (Or.inl rfl) | exact Or.inr (Or.inr rfl)) (hd : (x == ("__debug__" : Str)) = false := by decide)
    (hcd : (x == ("__classdict__" : Str)) = false := by decide) : PE' X (.Name x pos) (tVar' i) := l_var (pe_var hN hv hd hcd)
theorem pe_int' {i j pos} : PE' X (.Constant (.int i) j pos) (tC' (.int i)) := l_c pe_int fun _ => .int
theorem pe_bl' {b j pos} : PE' X (.Constant (.bool b) j pos) (tC' (.bl b)) := l_c pe_bl fun _ => .bl
theorem pe_non' {j pos} : PE' X (.Constant .none j pos) (tC' .non) := l_c pe_non fun _ => .non
theorem pe_str' {x j pos} : PE' X (.Constant (.str x) j pos) (tC' (.str x)) := l_c pe_str fun _ => .str
theorem pe_gint {i : Int} (hg : Gl X x) (hm : ∃ t, X.mg x = some (.int i t)) (hd : (x == ("__debug__" : Str)) = false := by decide) : PE' X (.Name x pos) (tC' (.int i)) := by
  obtain ⟨t, hm⟩ := hm
  exact l_c (pe_glob (v := .int i) hg hm ⟨t, rfl⟩ hd) fun _ => .int
theorem pe_gtup {a : Addr} {ds : List D} {vs : List V} (hg : Gl X x) (hm : X.mg x = some (.ref a)) (hs : ∀ H, SqT X.K H a vs) (r : ∀ H, DRs X.K H ds vs) (hd : (x == ("__debug__" : Str)) = false := by decide) : PE' X (.Name x pos) (tC' (.tup ds)) :=
  l_c (pe_glob (v := .ref a) hg hm rfl hd) fun H => .tup (hs H) (r H)

/-! ### operators by values -/
abbrev F2 := D → D → LL → DK → Prop
def OpD (K : PySem.W.Frag) (f : F2) (r : R2) : Prop := ∀ (d1 d2 : D) (x y : V) (L : LL) (H : Hp) (Φ : DK) (Q : VK), DR K H d1 x → DR K H d2 y → HL K H L → f d1 d2 L Φ → Kont K H Φ Q → r x y H Q
def tBin' (f : F2) (ta tb : TE') : TE' := fun σ L Φ => ta σ L fun x L1 => tb σ L1 fun y L2 => f x y L2 Φ
theorem lift_bin {f : F2} {r : R2} {ta tb : TE'} {σ : L2.St} {H : Hp} {Q : VK} (od : OpD X.K f r) (h : liftE X.K (tBin' f ta tb) σ H Q) : tOp r (liftE X.K ta) (liftE X.K tb) σ H Q := by
  obtain ⟨σd, L, Φ, hs, hl, ht, k⟩ := h
  exact ⟨σd, L, _, hs, hl, ht, fun d L1 v H1 h1 t1 r1 l1 => ⟨σd, L1, _, hs.mono t1, l1, h1, fun d2 L2 v2 H2 h2 t2 r2 l2 => od _ _ _ _ _ _ _ _ (r1.mono t2) r2 l2 h2 (k.mono (t1.trans t2))⟩⟩
variable {a b c : Expr} {ta tb tc : TE'}
theorem pe_op' {op : Operator} {f : F2} {r : R2} (od : OpD X.K f r) (ho : OpR X (binaryOp op) r) (ha : PE' X a ta) (hb : PE' X b tb) : PE' X (.BinOp a op b pos) (tBin' f ta tb) :=
  lE (pe_op ho ha hb) fun _ _ _ h => lift_bin od h
theorem pe_cmp' {op : CmpOp} {f : F2} {r : R2} (od : OpD X.K f r) (ho : OpR X (compareOp op) r) (ha : PE' X a ta) (hb : PE' X b tb) (hm : behindInMarks op b = false) : PE' X (.Compare a [op] [b] pos) (tBin' f ta tb) :=
  lE (pe_cmpR ho ha hb hm) fun _ _ _ h => lift_bin od h
/-- a test of an expression whose value is a bool -/
def Bt (T F : LL → Prop) : DK := fun d L => match d with
  | .bl true => T L
  | .bl false => F L
  | _ => False
/-- .. where it may be open -/
structure Br (b : Bool) (T F : Prop) : Prop where
  pos : b = true → T
  neg : b = false → F
def BtD (T F : LL → Prop) : DK := fun d L => match d with
  | .bl b => Br b (T L) (F L)
  | _ => False
def tTst' (t : TE') : TT' := fun σ L T F => t σ L (BtD T F)
theorem kontBt {K H} {T F : LL → Prop} {Q : Bool → Hp → Prop} (k : KontB K H T F Q) : Kont K H (BtD T F) (fun x H' => ∃ c, x = .bl c ∧ Q c H') := fun d L v H' h t r l => by
  cases r with
  | bl =>
    rename_i b
    obtain ⟨h1, h2⟩ := (show Br b (T L) (F L) from h)
    cases b with
    | true => exact ⟨true, rfl, k.1 L H' (h1 rfl) t l⟩
    | false => exact ⟨false, rfl, k.2 L H' (h2 rfl) t l⟩
  | _ => exact (show False from h).elim
theorem pt_val' {e : Expr} {t : TE'} (h : PE' X e t) (he : ∀ whole, isTrue e X.env whole = (do let v ← whole; standAt e.pos; holding [v] (truthy v)) := by intro _; rfl) : PT' X e (tTst' t) :=
  lT (pt_val h he) fun σ H Q ⟨σd, L, T, F, hs, hl, ht, k⟩ => ⟨σd, L, _, hs, hl, ht, kontBt k⟩
theorem pt_cmp' {op : CmpOp} {f : F2} {r : R2} (od : OpD X.K f r) (ho : OpR X (compareOp op) r) (ha : PE' X a ta) (hb : PE' X b tb) (hm : behindInMarks op b = false) : PT' X (.Compare a [op] [b] pos) (tTst' (tBin' f ta tb)) :=
  lT (pt_cmpR ho ha hb hm) fun σ H Q ⟨σd, L, T, F, hs, hl, ht, k⟩ => by
    have z : liftE X.K (tBin' f ta tb) σ H (fun x H' => ∃ c, x = .bl c ∧ Q c H') := ⟨σd, L, _, hs, hl, ht, kontBt k⟩
    exact lift_bin od z
end
/-! ints -/
def fI (g : Int → Int → D) : F2 := fun x y L Φ => match x, y with
  | .int i, .int j => Φ (g i j) L
  | _, _ => False
def fIC (C : Int → Int → Prop) (g : Int → Int → D) : F2 := fun x y L Φ => match x, y with
  | .int i, .int j => C i j ∧ Φ (g i j) L
  | _, _ => False
theorem od_I {K} {g : Int → Int → V} {g' : Int → Int → D} (hg : ∀ i j H, DR K H (g' i j) (g i j)) : OpD K (fI g') (rI0 g) := fun d1 d2 x y L H Φ Q r1 r2 l h k => by
  cases r1 <;> cases r2 <;> first
    | exact (show False from h).elim
    | exact ⟨_, _, rfl, rfl, k _ _ _ _ h .refl (hg _ _ _) l⟩
theorem od_IC {K} {C : Int → Int → Prop} {g : Int → Int → V} {g' : Int → Int → D} (hg : ∀ i j H, DR K H (g' i j) (g i j)) : OpD K (fIC C g') (rI C g) := fun d1 d2 x y L H Φ Q r1 r2 l h k => by
  cases r1 <;> cases r2 <;> first
    | exact (show False from h).elim
    | exact ⟨_, _, rfl, rfl, (show _ ∧ _ from h).1, k _ _ _ _ (show _ ∧ _ from h).2 .refl (hg _ _ _) l⟩
end DL

namespace DL
open PySem PySem.Spec PyProof.Rows L2
theorem szl {n : Nat} (h : n ≤ 1000000) : n ≤ sizeLine := by rw [sizeLine_eq]; omega
theorem szl' {n : Nat} (h : n ≤ 1000000) : n < sizeLine := by rw [sizeLine_eq]; omega

/-! ### + -/
def rCatR (K : PySem.W.Frag) : R2 := fun x y H Q => ∃ l b xs zs, x = .ref l ∧ y = .ref b ∧ SqL K H l xs ∧ SqL K H b zs ∧ xs.length + zs.length ≤ sizeLine ∧ ∀ p, H p = none → Q (.ref p) (upd H p (.lst (xs ++ zs)))
section
variable {X : Cx}
theorem op_catR : OpR X (binaryOp .Add) (rCatR X.K) := by
  intro pins s σ H x y v u Q I rx ry h
  obtain ⟨l, b, xs, zs, rfl, rfl, hH, hB, hz, q⟩ := h
  cases rx
  cases ry
  obtain ⟨its, r, ⟨⟨cls, dd, data, sl⟩, n, ho, hc, hdd, hd⟩, z⟩ := I.list hH
  obtain ⟨its2, r2, ⟨⟨cls2, dd2, data2, sl2⟩, n2, ho2, hc2, hdd2, hd2⟩, z2⟩ := I.list hB
  simp only at hc hd hc2 hd2
  subst hc hd hc2 hd2
  have hl := r.length
  have hl2 := r2.length
  have ea : its.toArray ++ its2.toArray = (its ++ its2).toArray := by simp
  refine concat_meets ⟨_, ho, rfl⟩ ⟨_, ho2, rfl⟩ noFill_list_add seq_list_add PySem.F.slot_list_add PySem.F.entry_list_add (PySem.F.args_list_add_2 _ _) (list_addW l b its.toArray its2.toArray n n2 dd dd2 sl sl2 (by rw [List.size_toArray, List.size_toArray]; omega)) ⟨ho, ho2, ?_⟩
  rw [ea]
  exact ⟨.ref _, _, I.lnew (t' := s.toks) (r.append r2) (by rw [List.length_append]; omega), rfl, q _ I.fresh⟩
end
def rAddA (K : PySem.W.Frag) : R2 := fun x y H Q => rI0 (fun i j => .int (i + j)) x y H Q ∨ rCatR K x y H Q ∨ rCatA K x y H Q ∨ (∃ i j, x = .str i ∧ y = .str j ∧ i.length + j.length ≤ sizeLine ∧ Q (.str (i ++ j)) H) ∨ ∃ i k, x = .int i ∧ y = .bl k ∧ Q (.int (i + b2i k)) H
theorem op_addA {X : Cx} : OpR X (binaryOp .Add) (rAddA X.K) := op_add.or (op_catR.or (op_catA.or (op_add_str.or op_add_ib)))
/-- list + list, both as they stand -/
def catD (a b : Addr) (L : LL) (Φ : DK) : Prop := ∃ xs, HasL L a xs ∧ ∃ ys, HasL L b ys ∧ xs.length + ys.length ≤ 1000000 ∧ ∀ p, Φ (.ref p) ((p, .lst (xs ++ ys)) :: L)
def fAdd : F2 := fun x y L Φ => match x, y with
  | .int i, .int j => Φ (.int (i + j)) L
  | .ref a, .ref b => catD a b L Φ
  | .tup xs, .tup ys => xs.length + ys.length ≤ 1000000 ∧ Φ (.tup (xs ++ ys)) L
  | .str a, .str b => a.length + b.length ≤ 1000000 ∧ Φ (.str (a ++ b)) L
  | .int i, .bl k => Φ (.int (i + b2i k)) L
  | _, _ => False
section
variable {K : PySem.W.Frag} {H : Hp} {L : LL} {p : Addr}
theorem ok_lst {ds : List D} {vs : List V} (r : DRs K H ds vs) (hp : H p = none) : OKo K (upd H p (.lst vs)) p (.lst ds) := ⟨vs, upd_same, r.mono (TK.new hp)⟩
theorem HL.newl {ds : List D} {vs : List V} (h : HL K H L) (hp : H p = none) (r : DRs K H ds vs) : HL K (upd H p (.lst vs)) ((p, .lst ds) :: L) := h.new hp (ok_lst r hp)
theorem dr_newt {ds : List D} {vs : List V} (hp : H p = none) (r : DRs K H ds vs) : DR K (upd H p (.tup vs)) (.tup ds) (.ref p) := .tup (.inl (.inl upd_same)) (r.mono (TK.new hp))
theorem DRs.nil_iff {ds : List D} {vs : List V} (r : DRs K H ds vs) : ds = [] ↔ vs = [] := by cases r <;> simp
theorem od_add : OpD K fAdd (rAddA K) := fun d1 d2 x y L H Φ Q r1 r2 l h k => by
  cases r1 with
  | int =>
    cases r2 with
    | int => exact .inl ⟨_, _, rfl, rfl, k _ _ _ _ h .refl .int l⟩
    | bl => exact .inr (.inr (.inr (.inr ⟨_, _, rfl, rfl, k _ _ _ _ h .refl .int l⟩)))
    | _ => exact (show False from h).elim
  | str =>
    cases r2 with
    | str => exact .inr (.inr (.inr (.inl ⟨_, _, rfl, rfl, szl (show _ ∧ _ from h).1, k _ _ _ _ (show _ ∧ _ from h).2 .refl .str l⟩)))
    | _ => exact (show False from h).elim
  | ref =>
    cases r2 with
    | ref =>
      obtain ⟨xs, h1, ys, h2, hz, q⟩ := (show catD _ _ L Φ from h)
      obtain ⟨vs, e1, s1⟩ := l.seq h1
      obtain ⟨us, e2, s2⟩ := l.seq h2
      exact .inr (.inl ⟨_, _, vs, us, rfl, rfl, e1, e2, by rw [← s1.length, ← s2.length]; exact szl hz, fun p hp => k _ _ _ _ (q p) (TK.new hp) .ref (l.newl hp (s1.append s2))⟩)
    | _ => exact (show False from h).elim
  | tup s1 t1 =>
    cases r2 with
    | tup s2 t2 =>
      obtain ⟨hz, q⟩ := (show _ ∧ _ from h)
      refine .inr (.inr (.inl ⟨_, _, _, _, rfl, rfl, s1, s2, by rw [← t1.length, ← t2.length]; exact szl hz, fun e => ?_, fun e e2 => ?_, fun e e2 p hp => ?_⟩))
      · have e' := (DRs.nil_iff t1).mpr e
        subst e'
        exact k _ _ _ _ q .refl (.tup s2 t2) l
      · have e' := (DRs.nil_iff t2).mpr e2
        subst e'
        rw [List.append_nil] at q
        exact k _ _ _ _ q .refl (.tup s1 t1) l
      · exact k _ _ _ _ q (TK.new hp) (dr_newt hp (t1.append t2)) (l.mono_new hp)
    | _ => exact (show False from h).elim
  | _ => exact (show False from h).elim
end
section
variable {X : Cx} {K : PySem.W.Frag}
/-! ### the other operators of ints -/
def fSub : F2 := fI fun i j => .int (i - j)
theorem od_sub : OpD K fSub (rI0 fun i j => .int (i - j)) := od_I fun _ _ _ => .int
def MulOk (i j : Int) : Prop := CMul i j ∨ CMulW i j
def rMulA (K : PySem.W.Frag) : R2 := fun x y H Q => (∃ i j, x = .int i ∧ y = .int j ∧ CMul i j ∧ Q (.int (i * j)) H) ∨ (∃ i j, x = .int i ∧ y = .int j ∧ CMulW i j ∧ Q (.int (i * j)) H) ∨ rRep x y H Q
theorem op_mulA : OpR X (binaryOp .Mult) (rMulA X.K) := op_mul.or (op_mulW.or op_rep)
def repD (ds : List D) (k : Nat) : List D := (List.replicate k ds).flatten
theorem repD_one (d : D) : ∀ k : Nat, repD [d] k = List.replicate k d
  | 0 => rfl
  | k + 1 => by
    have ih := repD_one d k
    unfold repD at *
    rw [List.replicate_succ, List.flatten_cons, ih, List.replicate_succ]
    rfl
theorem DRs.rep {H : Hp} {ds : List D} {vs : List V} (r : DRs K H ds vs) : ∀ k : Nat, DRs K H (repD ds k) (List.replicate k vs).flatten
  | 0 => .nil
  | k + 1 => by
    unfold repD
    rw [List.replicate_succ, List.flatten_cons, List.replicate_succ, List.flatten_cons]
    exact r.append (DRs.rep r k)
def fMul : F2 := fun x y L Φ => match x, y with
  | .int i, .int j => MulOk i j ∧ Φ (.int (i * j)) L
  | .ref a, .int k => ∃ ds, Has L a (.lst ds) ∧ (k ≤ 1000000 ∧ -1000000 ≤ k ∧ ds.length * k.toNat ≤ 1000000) ∧ ∀ p, Φ (.ref p) ((p, .lst (repD ds k.toNat)) :: L)
  | _, _ => False
theorem od_mul : OpD K fMul (rMulA K) := fun d1 d2 x y L H Φ Q r1 r2 l h k => by
  cases r1 with
  | int =>
    cases r2 with
    | int =>
      obtain ⟨c, q⟩ := (show MulOk _ _ ∧ _ from h)
      rcases c with c | c
      · exact .inl ⟨_, _, rfl, rfl, c, k _ _ _ _ q .refl .int l⟩
      · exact .inr (.inl ⟨_, _, rfl, rfl, c, k _ _ _ _ q .refl .int l⟩)
    | _ => exact (show False from h).elim
  | ref =>
    cases r2 with
    | int =>
      obtain ⟨ds, h1, ⟨c1, c2, c3⟩, q⟩ := (show ∃ ds, _ from h)
      obtain ⟨vs, e, r⟩ := l.lst h1
      have hl := r.length
      refine .inr (.inr ⟨_, _, vs, rfl, rfl, e, by omega, by omega, by rw [← hl]; exact szl c3, fun p hp => k _ _ _ _ (q p) (TK.new hp) .ref (l.newl hp (r.rep _))⟩)
    | _ => exact (show False from h).elim
  | _ => exact (show False from h).elim
def DivOk (j : Int) : Prop := 0 < j ∧ j.natAbs.log2 < 9000
def fFdiv : F2 := fIC (fun _ j => DivOk j) fun i j => .int (i / j)
theorem od_fdiv : OpD K fFdiv (rI CDivW fun i j => .int (i / j)) := od_IC fun _ _ _ => .int
def fMod : F2 := fIC (fun _ j => 0 < j) fun i j => .int (i % j)
theorem od_mod : OpD K fMod (rI (fun _ j => 0 < j) fun i j => .int (i % j)) := od_IC fun _ _ _ => .int
def fPow : F2 := fIC CPow fun i j => .int (i ^ j.toNat)
theorem od_pow : OpD K fPow (rI CPow fun i j => .int (i ^ j.toNat)) := od_IC fun _ _ _ => .int
def fShr : F2 := fIC (fun _ j => 0 ≤ j) fun i j => .int (i / 2 ^ j.toNat)
theorem od_shr : OpD K fShr (rI (fun _ j => 0 ≤ j) fun i j => .int (i / 2 ^ j.toNat)) := od_IC fun _ _ _ => .int
def fShl : F2 := fIC CPow fun i j => .int (i * 2 ^ j.toNat)
theorem od_shl : OpD K fShl (rI CPow fun i j => .int (i * 2 ^ j.toNat)) := od_IC fun _ _ _ => .int
def fBand : F2 := fI fun i j => .int (Builtin.bitAnd i j)
theorem od_band : OpD K fBand (rI0 fun i j => .int (Builtin.bitAnd i j)) := od_I fun _ _ _ => .int
/-! ### comparisons -/
def fLt : F2 := fI fun i j => .bl (decide (i < j))
theorem od_lt : OpD K fLt (rI0 fun i j => .bl (decide (i < j))) := od_I fun _ _ _ => .bl
def fLe : F2 := fI fun i j => .bl (decide (i ≤ j))
theorem od_le : OpD K fLe (rI0 fun i j => .bl (decide (i ≤ j))) := od_I fun _ _ _ => .bl
def fGt : F2 := fI fun i j => .bl (decide (j < i))
theorem od_gt : OpD K fGt (rI0 fun i j => .bl (decide (j < i))) := od_I fun _ _ _ => .bl
def fGe : F2 := fI fun i j => .bl (decide (j ≤ i))
theorem od_ge : OpD K fGe (rI0 fun i j => .bl (decide (j ≤ i))) := od_I fun _ _ _ => .bl
def isNon : D → Bool
  | .non => true
  | _ => false
theorem isNon_dr {H : Hp} {d : D} {v : V} (r : DR K H d v) : decide (v = .non) = isNon d := by cases r <;> simp [isNon]
def fIs : F2 := fun x y L Φ => match y with
  | .non => Φ (.bl (isNon x)) L
  | _ => False
theorem od_is : OpD K fIs (fun x y H Q => y = .non ∧ Q (.bl (decide (x = .non))) H) := fun d1 d2 x y L H Φ Q r1 r2 l h k => by
  cases r2 with
  | non => exact ⟨rfl, k _ _ _ _ (show Φ (.bl (isNon d1)) L from h) .refl (by rw [isNon_dr r1]; exact .bl) l⟩
  | _ => exact (show False from h).elim
def fIsNot : F2 := fun x y L Φ => match y with
  | .non => Φ (.bl (!isNon x)) L
  | _ => False
theorem od_isnot : OpD K fIsNot (fun x y H Q => y = .non ∧ Q (.bl (!decide (x = .non))) H) := fun d1 d2 x y L H Φ Q r1 r2 l h k => by
  cases r2 with
  | non => exact ⟨rfl, k _ _ _ _ (show Φ (.bl (!isNon d1)) L from h) .refl (by rw [isNon_dr r1]; exact .bl) l⟩
  | _ => exact (show False from h).elim
/-! data at any depth -/
mutual
inductive DpD (L : LL) : Nat → D → PyData → Prop
  | non {n} : DpD L n .non .none
  | bl {n b} : DpD L n (.bl b) (.bool b)
  | int {n i} : DpD L n (.int i) (.int i)
  | str {n x} : PyData.strOk x = true → DpD L n (.str x) (.str x)
  | tup {n ds ps} : DpDs L n ds ps → DpD L (n + 1) (.tup ds) (.tuple ps)
  | lst {n a ds ps} : HasL L a ds → DpDs L n ds ps → DpD L (n + 1) (.ref a) (.list ps)
inductive DpDs (L : LL) : Nat → List D → List PyData → Prop
  | nil {n} : DpDs L n [] []
  | cons {n d ds p ps} : DpD L n d p → DpDs L n ds ps → DpDs L n (d :: ds) (p :: ps)
end
section
variable {H : Hp} {L : LL}
mutual
theorem DpD.dp (l : HL K H L) : ∀ {n : Nat} {d : D} {p : PyData} {v : V}, DpD L n d p → DR K H d v → Dp K H v p
  | _, _, _, _, .non, .non => .non
  | _, _, _, _, .bl, .bl => .bl _
  | _, _, _, _, .int, .int => .int _
  | _, _, _, _, .str _, .str => .str _
  | _, _, _, _, .tup t, .tup s r => .tup s (DpDs.dp l t r)
  | _, _, _, _, .lst h t, .ref => by
    obtain ⟨vs, e, r⟩ := l.seq h
    exact .lst e (DpDs.dp l t r)
theorem DpDs.dp (l : HL K H L) : ∀ {n : Nat} {ds : List D} {ps : List PyData} {vs : List V}, DpDs L n ds ps → DRs K H ds vs → DpAll K H vs ps
  | _, _, _, _, .nil, .nil => .nil
  | _, _, _, _, .cons a b, .cons r t => .cons (DpD.dp l a r) (DpDs.dp l b t)
end
mutual
theorem DpD.lay : ∀ {n : Nat} {d : D} {p : PyData}, DpD L n d p → p.canLay0 = true ∧ p.depth ≤ n
  | _, _, _, .non => ⟨rfl, Nat.zero_le _⟩
  | _, _, _, .bl => ⟨rfl, Nat.zero_le _⟩
  | _, _, _, .int => ⟨rfl, Nat.zero_le _⟩
  | _, _, _, .str h => ⟨h, Nat.zero_le _⟩
  | _, _, _, .tup t => ⟨(DpDs.lay t).1, Nat.succ_le_succ (DpDs.lay t).2⟩
  | _, _, _, .lst _ t => ⟨(DpDs.lay t).1, Nat.succ_le_succ (DpDs.lay t).2⟩
theorem DpDs.lay : ∀ {n : Nat} {ds : List D} {ps : List PyData}, DpDs L n ds ps → PyData.canLayAll0 ps = true ∧ PyData.depthAll ps ≤ n
  | _, _, _, .nil => ⟨rfl, Nat.zero_le _⟩
  | _, _, _, .cons a b => ⟨by
    rw [PyData.canLayAll0, (DpD.lay a).1, (DpDs.lay b).1]; rfl, Nat.max_le.mpr ⟨(DpD.lay a).2, (DpDs.lay b).2⟩⟩
end
theorem DpD.shaped {n : Nat} {d : D} {p : PyData} (h : DpD L n d p) (hn : n ≤ 64) : SeqAt.shaped p = true := by
  unfold SeqAt.shaped
  rw [h.lay.1, decide_eq_true (Nat.le_trans h.lay.2 hn)]
  rfl
theorem DpDs.ints {n : Nat} : ∀ xs : List Int, DpDs L n (xs.map .int) (xs.map .int)
  | [] => .nil
  | _ :: r => .cons .int (DpDs.ints r)
theorem DpDs.append {n : Nat} : ∀ {ds es : List D} {ps qs : List PyData}, DpDs L n ds ps → DpDs L n es qs → DpDs L n (ds ++ es) (ps ++ qs)
  | _, _, _, _, .nil, b => b
  | _, _, _, _, .cons a r, b => .cons a (DpDs.append r b)
end
inductive deepE (x y : D) (L : LL) (k : Bool → Prop) : Prop
  | mk (p q : PyData) : DpD L 9 x p → DpD L 9 y q → k (PyData.eqv p q) → deepE x y L k
def fEq : F2 := fun x y L Φ => match x, y with
  | .int i, .int j => Φ (.bl (decide (i = j))) L
  | .str i, .str j => Φ (.bl (decide (i = j))) L
  | .bl i, .bl j => Φ (.bl (decide (i = j))) L
  | x, y => deepE x y L fun b => Φ (.bl b) L
def fNe : F2 := fun x y L Φ => match x, y with
  | .int i, .int j => Φ (.bl (!decide (i = j))) L
  | .str i, .str j => Φ (.bl (!decide (i = j))) L
  | .bl i, .bl j => Φ (.bl (!decide (i = j))) L
  | x, y => deepE x y L fun b => Φ (.bl (!b)) L
def rEqA (K : PySem.W.Frag) : R2 := fun x y H Q => rEq x y H Q ∨ rEqD K x y H Q
def rNeA (K : PySem.W.Frag) : R2 := fun x y H Q => rNe x y H Q ∨ rNeD K x y H Q
theorem op_eqA (hu : X.A.units + 64 < cLine) : OpR X (compareOp .Eq) (rEqA X.K) := op_eq.or (op_eqD hu)
theorem op_neA (hu : X.A.units + 64 < cLine) : OpR X (compareOp .NotEq) (rNeA X.K) := op_ne.or (op_neD hu)
theorem deep_eq {d1 d2 : D} {x y : V} {L : LL} {H : Hp} {Q : VK} {k : Bool → Prop} (r1 : DR K H d1 x) (r2 : DR K H d2 y) (l : HL K H L) (h : deepE d1 d2 L k) (q : ∀ b, k b → Q (.bl b) H) : rEqD K x y H Q := by
  obtain ⟨p, p', h1, h2, q'⟩ := h
  exact ⟨p, p', h1.dp l r1, h2.dp l r2, h1.shaped (by decide), h2.shaped (by decide), q _ q'⟩
theorem deep_ne {d1 d2 : D} {x y : V} {L : LL} {H : Hp} {Q : VK} {k : Bool → Prop} (r1 : DR K H d1 x) (r2 : DR K H d2 y) (l : HL K H L) (h : deepE d1 d2 L k) (q : ∀ b, k b → Q (.bl (!b)) H) : rNeD K x y H Q := by
  obtain ⟨p, p', h1, h2, q'⟩ := h
  exact ⟨p, p', h1.dp l r1, h2.dp l r2, h1.shaped (by decide), h2.shaped (by decide), q _ q'⟩
theorem od_eq : OpD K fEq (rEqA K) := fun d1 d2 x y L H Φ Q r1 r2 l h k => by
  have deep : deepE d1 d2 L (fun b => Φ (.bl b) L) → rEqA K x y H Q := fun z => .inr (deep_eq r1 r2 l z fun b q => k _ _ _ _ q .refl .bl l)
  cases r1 <;> cases r2 <;> first
    | exact deep h
    | exact .inl ⟨rfl, k _ _ _ _ h .refl (by simp; exact .bl) l⟩
theorem od_ne : OpD K fNe (rNeA K) := fun d1 d2 x y L H Φ Q r1 r2 l h k => by
  have deep : deepE d1 d2 L (fun b => Φ (.bl (!b)) L) → rNeA K x y H Q := fun z => .inr (deep_ne r1 r2 l z fun b q => k _ _ _ _ q .refl .bl l)
  cases r1 <;> cases r2 <;> first
    | exact deep h
    | exact .inl ⟨rfl, k _ _ _ _ h .refl (by simp; exact .bl) l⟩
end
end DL

namespace DL
open PySem PySem.Spec PyProof.Rows L2
section
variable {X : Cx} {a b c e : Expr} {ta tb tc te : TE'} {tp tq : TT'} {pos : Pos} {rest es : List Expr}
/-! ### tests: and, or, not -/
def tAnd' (t u : TT') : TT' := fun σ L T F => t σ L (fun L1 => u σ L1 T F) F
def tOr' (t u : TT') : TT' := fun σ L T F => t σ L T (fun L1 => u σ L1 T F)
def tNot' (t : TT') : TT' := fun σ L T F => t σ L F T
theorem lift_and {σ : L2.St} {H : Hp} {Q : Bool → Hp → Prop} (h : liftT X.K (tAnd' tp tq) σ H Q) : tAnd (liftT X.K tp) (liftT X.K tq) σ H Q := by
  obtain ⟨σd, L, T, F, hs, hl, ht, k⟩ := h
  refine ⟨σd, L, _, _, hs, hl, ht, fun L1 H1 q t l => ?_, fun L1 H1 q t l => ?_⟩
  · refine iteT ?_
    exact ⟨σd, L1, T, F, hs.mono t, l, q, k.mono t⟩
  · refine iteF ?_
    exact k.2 L1 H1 q t l
theorem lift_or {σ : L2.St} {H : Hp} {Q : Bool → Hp → Prop} (h : liftT X.K (tOr' tp tq) σ H Q) : tOr (liftT X.K tp) (liftT X.K tq) σ H Q := by
  obtain ⟨σd, L, T, F, hs, hl, ht, k⟩ := h
  refine ⟨σd, L, _, _, hs, hl, ht, fun L1 H1 q t l => ?_, fun L1 H1 q t l => ?_⟩
  · refine iteT ?_
    exact k.1 L1 H1 q t l
  · refine iteF ?_
    exact ⟨σd, L1, T, F, hs.mono t, l, q, k.mono t⟩
def PW' (X : Cx) (e : Expr) (t : TT') : Prop := PW X e (liftT X.K t)
theorem pw_and1' (h : PT' X a tp) : PW' X (.BoolOp .And [a] pos) tp := pw_and1 h
theorem pw_or1' (h : PT' X a tp) : PW' X (.BoolOp .Or [a] pos) tp := pw_or1 h
theorem pw_and' (h : PT' X a tp) (h2 : PW' X (.BoolOp .And (b :: rest) pos) tq) : PW' X (.BoolOp .And (a :: b :: rest) pos) (tAnd' tp tq) :=
  ⟨fun w pins s σ H Q I q => (pw_and h h2).run w pins s σ H Q I (lift_and q)⟩
theorem pw_or' (h : PT' X a tp) (h2 : PW' X (.BoolOp .Or (b :: rest) pos) tq) : PW' X (.BoolOp .Or (a :: b :: rest) pos) (tOr' tp tq) :=
  ⟨fun w pins s σ H Q I q => (pw_or h h2).run w pins s σ H Q I (lift_or q)⟩
theorem PW'.pt {e : Expr} (h : PW' X e tp) : PT' X e tp := PW.pt h
theorem pt_not' (h : PT' X a tp) : PT' X (.UnaryOp .Not a pos) (tNot' tp) := lT (pt_not h) fun σ H Q ⟨σd, L, T, F, hs, hl, ht, k⟩ =>
  ⟨σd, L, _, _, hs, hl, ht, fun L1 H1 q t l => k.2 L1 H1 q t l, fun L1 H1 q t l => k.1 L1 H1 q t l⟩
/-! truth of a value -/
/-- k: the value's truth, then what follows -/
def truD (d : D) (L : LL) (k : Bool → Prop) : Prop := match d with
  | .non => k false
  | .bl b => k b
  | .int i => k (i != 0)
  | .ref a => ∃ ds, HasL L a ds ∧ k (!ds.isEmpty)
  | .tup ds => k (!ds.isEmpty)
  | _ => False
theorem empty_dr {K : PySem.W.Frag} {H : Hp} {ds : List D} {vs : List V} (r : DRs K H ds vs) : (!vs.isEmpty) = !ds.isEmpty := by cases r <;> rfl
theorem truD.ok {K : PySem.W.Frag} {H : Hp} {L : LL} {d : D} {v : V} {k : Bool → Prop} (r : DR K H d v) (l : HL K H L) (h : truD d L k) : ∃ b, TruV K v H b ∧ k b := by
  cases r with
  | non => exact ⟨_, rfl, h⟩
  | bl => exact ⟨_, rfl, h⟩
  | int => exact ⟨_, rfl, h⟩
  | ref =>
    obtain ⟨ds, h1, q⟩ := (show ∃ ds, _ from h)
    obtain ⟨vs, e, r⟩ := l.seq h1
    exact ⟨!vs.isEmpty, .inl ⟨vs, e, rfl⟩, by rw [empty_dr r]; exact q⟩
  | tup s t =>
    refine ⟨_, .inr (.inl ⟨_, s, rfl⟩), ?_⟩
    rw [empty_dr t]
    exact h
  | _ => exact (show False from h).elim
def tTru' (t : TE') : TT' := fun σ L T F => t σ L fun d L1 => truD d L1 fun b => Br b (T L1) (F L1)
theorem br_k {K : PySem.W.Frag} {H : Hp} {T F : LL → Prop} {Q : Bool → Hp → Prop} {b : Bool} {L : LL} {H' : Hp} (k : KontB K H T F Q) (h : Br b (T L) (F L)) (t : TK K H H') (l : HL K H' L) : Q b H' := by
  cases b with
  | true => exact k.1 L H' (h.1 rfl) t l
  | false => exact k.2 L H' (h.2 rfl) t l
theorem pt_tru' (h : PE' X a ta) (he : ∀ whole, isTrue a X.env whole = (do let v ← whole; standAt a.pos; holding [v] (truthy v)) := by intro _; rfl) : PT' X a (tTru' ta) :=
  lT (pt_truth h he) fun σ H Q ⟨σd, L, T, F, hs, hl, ht, k⟩ => ⟨σd, L, _, hs, hl, ht, fun d L1 v H1 q t r l => by
    obtain ⟨b, h1, h2⟩ := truD.ok r l q
    exact ⟨b, h1, br_k k h2 t l⟩⟩
/-! ### and, or, not, if as values -/
def tAndV' (t u : TE') : TE' := fun σ L Φ => t σ L fun d L1 => truD d L1 fun b => Br b (u σ L1 Φ) (Φ d L1)
def tOrV' (t u : TE') : TE' := fun σ L Φ => t σ L fun d L1 => truD d L1 fun b => Br b (Φ d L1) (u σ L1 Φ)
def tNotV' (t : TE') : TE' := fun σ L Φ => t σ L fun d L1 => truD d L1 fun b => Φ (.bl (!b)) L1
theorem pe_one' {op : BoolOp} (h : PE' X a ta) : PE' X (.BoolOp op [a] pos) ta := pe_one h
theorem pe_and' (h : PE' X a ta) (h2 : PE' X (.BoolOp .And (b :: rest) pos) tb) : PE' X (.BoolOp .And (a :: b :: rest) pos) (tAndV' ta tb) :=
  lE (pe_andT h h2) fun σ H Q ⟨σd, L, Φ, hs, hl, ht, k⟩ => ⟨σd, L, _, hs, hl, ht, fun d L1 v H1 q t r l => by
    obtain ⟨b, h1, h2⟩ := truD.ok r l q
    refine ⟨b, h1, ?_⟩
    cases b with
    | true => refine iteT ?_; exact ⟨σd, L1, Φ, hs.mono t, l, h2.1 rfl, k.mono t⟩
    | false => refine iteF ?_; exact k _ _ _ _ (h2.2 rfl) t r l⟩
theorem pe_or' (h : PE' X a ta) (h2 : PE' X (.BoolOp .Or (b :: rest) pos) tb) : PE' X (.BoolOp .Or (a :: b :: rest) pos) (tOrV' ta tb) :=
  lE (pe_orT h h2) fun σ H Q ⟨σd, L, Φ, hs, hl, ht, k⟩ => ⟨σd, L, _, hs, hl, ht, fun d L1 v H1 q t r l => by
    obtain ⟨b, h1, h2⟩ := truD.ok r l q
    refine ⟨b, h1, ?_⟩
    cases b with
    | true => refine iteT ?_; exact k _ _ _ _ (h2.1 rfl) t r l
    | false => refine iteF ?_; exact ⟨σd, L1, Φ, hs.mono t, l, h2.2 rfl, k.mono t⟩⟩
theorem pe_not' (h : PE' X a ta) : PE' X (.UnaryOp .Not a pos) (tNotV' ta) :=
  lE (pe_notT h) fun σ H Q ⟨σd, L, Φ, hs, hl, ht, k⟩ => ⟨σd, L, _, hs, hl, ht, fun d L1 v H1 q t r l => by
    obtain ⟨b, h1, h2⟩ := truD.ok r l q
    exact ⟨b, h1, k _ _ _ _ h2 t .bl l⟩⟩
def tIf' (t : TT') (u v : TE') : TE' := fun σ L Φ => t σ L (fun L1 => u σ L1 Φ) (fun L1 => v σ L1 Φ)
theorem pe_ifExp' (hc : PT' X c tp) (ha : PE' X a ta) (hb : PE' X b tb) : PE' X (.IfExp c a b pos) (tIf' tp ta tb) :=
  lE (pe_ifExp hc ha hb) fun σ H Q ⟨σd, L, Φ, hs, hl, ht, k⟩ => ⟨σd, L, _, _, hs, hl, ht, fun L1 H1 q t l => by
    refine iteT ?_
    exact ⟨σd, L1, Φ, hs.mono t, l, q, k.mono t⟩, fun L1 H1 q t l => by
    refine iteF ?_
    exact ⟨σd, L1, Φ, hs.mono t, l, q, k.mono t⟩⟩
/-! ### unary minus -/
def tNeg' (t : TE') : TE' := fun σ L Φ => t σ L fun d L1 => match d with
  | .int i => Φ (.int (-i)) L1
  | _ => False
theorem pe_neg' (h : PE' X a ta) : PE' X (.UnaryOp .USub a pos) (tNeg' ta) :=
  lE (pe_un un_neg h) fun σ H Q ⟨σd, L, Φ, hs, hl, ht, k⟩ => ⟨σd, L, _, hs, hl, ht, fun d L1 v H1 q t r l => by
    cases r with
    | int => exact ⟨_, rfl, k _ _ _ _ q t .int l⟩
    | _ => exact (show False from q).elim⟩
/-! ### chains a < b < c -/
def tChain' (f g : F2) (ta tb tc : TE') : TE' := fun σ L Φ => ta σ L fun x L1 => tb σ L1 fun y L2 => f x y L2 fun z L3 => match z with
  | .bl k => Br k (tc σ L3 fun w L4 => g y w L4 Φ) (Φ (.bl false) L3)
  | _ => False
theorem lift_chain {op op' : CmpOp} {f g : F2} {r r' : R2} (od : OpD X.K f r) (od' : OpD X.K g r') {σ : L2.St} {H : Hp} {Q : VK} : liftE X.K (tChain' f g ta tb tc) σ H Q → tChain r r' (liftE X.K ta) (liftE X.K tb) (liftE X.K tc) σ H Q :=
  fun ⟨σd, L, Φ, hs, hl, ht, k⟩ => ⟨σd, L, _, hs, hl, ht, fun d L1 v H1 h1 t1 r1 l1 => ⟨σd, L1, _, hs.mono t1, l1, h1, fun d2 L2 v2 H2 h2 t2 r2 l2 =>
    od _ _ _ _ _ _ _ _ (r1.mono t2) r2 l2 h2 fun z L3 vz H3 h3 t3 r3 l3 => by
      cases r3 with
      | bl =>
        rename_i kb
        refine ⟨kb, rfl, ?_⟩
        cases kb with
        | true =>
          refine iteT ?_
          exact ⟨σd, L3, _, hs.mono ((t1.trans t2).trans t3), l3, (show Br _ _ _ from h3).1 rfl, fun d4 L4 v4 H4 h4 t4 r4 l4 => od' _ _ _ _ _ _ _ _ (r2.mono (t3.trans t4)) r4 l4 h4 (k.mono (((t1.trans t2).trans t3).trans t4))⟩
        | false =>
          refine iteF ?_
          exact k _ _ _ _ ((show Br _ _ _ from h3).2 rfl) ((t1.trans t2).trans t3) .bl l3
      | _ => exact (show False from h3).elim⟩⟩
theorem pe_chain' {op op' : CmpOp} {f g : F2} {r r' : R2} (od : OpD X.K f r) (od' : OpD X.K g r') (ho : OpR X (compareOp op) r) (ho' : OpR X (compareOp op') r') (ha : PE' X a ta) (hb : PE' X b tb) (hc : PE' X c tc)
    (hm : lastMarks [op, op'] [b, c] = false := by with_unfolding_all rfl) : PE' X (.Compare a [op, op'] [b, c] pos) (tChain' f g ta tb tc) :=
  lE (pe_chain ho ho' ha hb hc hm) fun σ H Q h => lift_chain (op := op) (op' := op') od od' h
theorem pt_chain' {op op' : CmpOp} {f g : F2} {r r' : R2} (od : OpD X.K f r) (od' : OpD X.K g r') (ho : OpR X (compareOp op) r) (ho' : OpR X (compareOp op') r') (ha : PE' X a ta) (hb : PE' X b tb) (hc : PE' X c tc)
    (hm : lastMarks [op, op'] [b, c] = false := by with_unfolding_all rfl) : PT' X (.Compare a [op, op'] [b, c] pos) (tTst' (tChain' f g ta tb tc)) :=
  lT (pt_chain ho ho' ha hb hc hm) fun σ H Q ⟨σd, L, T, F, hs, hl, ht, k⟩ => by
    have z : liftE X.K (tChain' f g ta tb tc) σ H (fun x H' => ∃ c, x = .bl c ∧ Q c H') := ⟨σd, L, _, hs, hl, ht, kontBt k⟩
    exact lift_chain (op := op) (op' := op') od od' z
/-! ### argument lists, tuples, lists -/
def tNil' : TA' := fun _ L Φ => Φ [] L
def tCons' (t : TE') (u : TA') : TA' := fun σ L Φ => t σ L fun d L1 => u σ L1 fun ds L2 => Φ (d :: ds) L2
theorem pa_nil' : PA' X [] tNil' := lA pa_nil fun σ H Q ⟨σd, L, Φ, hs, hl, ht, k⟩ => k _ _ _ _ ht .refl .nil hl
theorem pa_cons' {t : TA'} (h : PE' X e te) (h2 : PA' X es t) (hs : starEach (e :: es) X.env = (false, eval e X.env) :: starEach es X.env := by rfl) : PA' X (e :: es) (tCons' te t) :=
  lA (pa_cons h h2 hs) fun σ H Q ⟨σd, L, Φ, hs, hl, ht, k⟩ => ⟨σd, L, _, hs, hl, ht, fun d L1 v H1 h1 t1 r1 l1 => ⟨σd, L1, _, hs.mono t1, l1, h1, fun ds L2 vs H2 h2 t2 r2 l2 => k _ _ _ _ h2 (t1.trans t2) (.cons (r1.mono t2) r2) l2⟩⟩
def starD (d : D) (L : LL) (k : List D → Prop) : Prop := match d with
  | .ref a => ∃ ds, HasL L a ds ∧ k ds
  | .tup ds => k ds
  | _ => False
def tStar' (t : TE') (u : TA') : TA' := fun σ L Φ => t σ L fun d L1 => starD d L1 fun xs => u σ L1 fun ds L2 => Φ (xs ++ ds) L2
theorem pa_star' {t : TA'} {p : Pos} (h : PE' X e te) (h2 : PA' X es t) (hs : starEach (.Starred e p :: es) X.env = (true, eval e X.env) :: starEach es X.env := by rfl) : PA' X (.Starred e p :: es) (tStar' te t) :=
  lA (StX.pa_star h h2 hs) fun σ H Q ⟨σd, L, Φ, hs, hl, ht, k⟩ => ⟨σd, L, _, hs, hl, ht, fun d L1 v H1 h1 t1 r1 l1 => by
    cases r1 with
    | ref =>
      obtain ⟨ds, hh, q⟩ := (show ∃ ds, _ from h1)
      obtain ⟨vs, e, r⟩ := l1.seq hh
      exact ⟨_, vs, rfl, .inr e, σd, L1, _, hs.mono t1, l1, q, fun ds2 L2 vs2 H2 h2 t2 r2 l2 => k _ _ _ _ h2 (t1.trans t2) ((r.mono t2).append r2) l2⟩
    | tup s t =>
      exact ⟨_, _, rfl, .inl s, σd, L1, _, hs.mono t1, l1, h1, fun ds2 L2 vs2 H2 h2 t2 r2 l2 => k _ _ _ _ h2 (t1.trans t2) ((t.mono t2).append r2) l2⟩
    | _ => exact (show False from h1).elim⟩
def tTup' (t : TA') : TE' := fun σ L Φ => t σ L fun ds L1 => ds.length ≤ 1000000 ∧ Φ (.tup ds) L1
def tLst' (t : TA') : TE' := fun σ L Φ => t σ L fun ds L1 => ds.length ≤ 1000000 ∧ ∀ p, Φ (.ref p) ((p, .lst ds) :: L1)
theorem pe_tup' {t : TA'} {x1} (h : PA' X es t) : PE' X (.Tuple es x1 pos) (tTup' t) := lE (pe_tup h) fun σ H Q ⟨σd, L, Φ, hs, hl, ht, k⟩ => ⟨σd, L, _, hs, hl, ht, fun ds L1 vs H1 h1 t1 r1 l1 =>
  ⟨by rw [← r1.length]; exact szl h1.1, fun p hp => k _ _ _ _ h1.2 (t1.trans (TK.new hp)) (dr_newt hp r1) (l1.mono_new hp)⟩⟩
theorem pe_lst' {t : TA'} (h : PA' X es t) : PE' X (.List es pos) (tLst' t) := lE (pe_lst h) fun σ H Q ⟨σd, L, Φ, hs, hl, ht, k⟩ => ⟨σd, L, _, hs, hl, ht, fun ds L1 vs H1 h1 t1 r1 l1 =>
  ⟨by rw [← r1.length]; exact szl h1.1, fun p hp => k _ _ _ _ (h1.2 p) (t1.trans (TK.new hp)) .ref (l1.newl hp r1)⟩⟩
/-! ### attributes -/
def getF (f : Nat) (fs : List (Nat × D)) (k : D → Prop) : Prop := match getN f fs with
  | some d => k d
  | none => False
def tFld' (C : Addr) (f : Nat) (t : TE') : TE' := fun σ L Φ => t σ L fun d L1 => match d with
  | .ref a => ∃ fs, Has L1 a (.ins C fs) ∧ getF f fs fun d => Φ d L1
  | _ => False
theorem pe_fld' {C : Addr} {f : Nat} {x : Str} (cl : Cls X.K C) (na : NoAttr X.K C x) (h : PE' X e te) (hx : fname f = x := by rfl) (hf : f < fnames.length := by decide) (hb : attributeBase e x X.env (eval e X.env) = eval e X.env := by rfl) : PE' X (.Attribute e x pos) (tFld' C f te) :=
  lE (pe_fld h hb) fun σ H Q ⟨σd, L, Φ, hs, hl, ht, k⟩ => ⟨σd, L, _, hs, hl, ht, fun d L1 v H1 h1 t1 r1 l1 => by
    cases r1 with
    | ref =>
      obtain ⟨fs, h2, q⟩ := (show ∃ fs, _ from h1)
      obtain ⟨dx, gs, e1, r⟩ := l1.has h2
      unfold getF at q
      cases eg : getN f fs with
      | none => rw [eg] at q; exact q.elim
      | some d =>
        rw [eg] at q
        obtain ⟨v, lk, rv⟩ := r.get hf eg
        rw [hx] at lk
        exact ⟨_, C, dx, gs, v, rfl, e1, cl, na, lk, k _ _ _ _ q t1 rv l1⟩
    | _ => exact (show False from h1).elim⟩
/-! ### subscripts, slices -/
/-- the item at i -/
def itemD (ds : List D) (i : Int) (k : D → Prop) : Prop := ∃ d, atI ds i = some d ∧ k d
def fIx : F2 := fun x y L Φ => match x, y with
  | .ref a, .int i => ∃ ds, HasL L a ds ∧ itemD ds i fun d => Φ d L
  | .tup ds, .int i => itemD ds i fun d => Φ d L
  | _, _ => False
theorem atI_dr {K : PySem.W.Frag} {H : Hp} {ds : List D} {vs : List V} {i : Int} {d : D} (r : DRs K H ds vs) (h : atI ds i = some d) : ∃ v, atI vs i = some v ∧ DR K H d v := by
  unfold atI at *
  rw [← r.length]
  cases e : ixN ds.length i with
  | none => rw [e] at h; cases h
  | some j =>
    rw [e] at h
    exact r.get h
theorem od_ix {K : PySem.W.Frag} : OpD K fIx (rIx K) := fun d1 d2 x y L H Φ Q r1 r2 l h k => by
  cases r1 with
  | ref =>
    cases r2 with
    | int =>
      obtain ⟨ds, h1, d, h2, q⟩ := (show ∃ ds, _ from h)
      obtain ⟨vs, e, r⟩ := l.seq h1
      obtain ⟨v, h3, rv⟩ := atI_dr r h2
      exact .inl ⟨_, vs, _, v, rfl, rfl, e, h3, k _ _ _ _ q .refl rv l⟩
    | _ => exact (show False from h).elim
  | tup s t =>
    cases r2 with
    | int =>
      obtain ⟨d, h2, q⟩ := (show ∃ d, _ from h)
      obtain ⟨v, h3, rv⟩ := atI_dr t h2
      exact .inr (.inl ⟨_, _, _, v, rfl, rfl, s, h3, k _ _ _ _ q .refl rv l⟩)
    | _ => exact (show False from h).elim
  | _ => exact (show False from h).elim
theorem pe_ix' (ha : PE' X a ta) (hb : PE' X b tb) (hs : PlainIx b := by exact fun _ _ => rfl) : PE' X (.Subscript a b pos) (tBin' fIx ta tb) := lE (pe_ix ix_seq ha hb hs) fun _ _ _ h => lift_bin od_ix h
abbrev TO' := Sl → LL → (Option Int → LL → Prop) → Prop
def liftO (K : PySem.W.Frag) (t : TO') : TO := fun σ H Q => ∃ σd L Φ, SR K H σd σ ∧ HL K H L ∧ t σd L Φ ∧ ∀ o L' H', Φ o L' → TK K H H' → HL K H' L' → Q o H'
abbrev PO' (X : Cx) (e : Option Expr) (t : TO') : Prop := PO X e (liftO X.K t)
def tNoPart' : TO' := fun _ L Φ => Φ none L
def tPart' (t : TE') : TO' := fun σ L Φ => t σ L fun d L1 => match d with
  | .int i => Φ (some i) L1
  | _ => False
theorem po_none' : PO' X none tNoPart' := ⟨fun pins s σ H Q I ⟨σd, L, Φ, hs, hl, ht, k⟩ => po_none.run pins s σ H Q I (k _ _ _ ht .refl hl)⟩
theorem po_some' (h : PE' X e te) : PO' X (some e) (tPart' te) := ⟨fun pins s σ H Q I ⟨σd, L, Φ, hs, hl, ht, k⟩ => (po_some h).run pins s σ H Q I ⟨σd, L, _, hs, hl, ht, fun d L1 v H1 h1 t1 r1 l1 => by
  cases r1 with
  | int => exact ⟨_, rfl, k _ _ _ h1 t1 l1⟩
  | _ => exact (show False from h1).elim⟩⟩
def cutD (ds : List D) (lo hi : Option Int) : List D := (ds.drop (HT.sIx ds.length 0 lo)).take (HT.sIx ds.length ds.length hi - HT.sIx ds.length 0 lo)
theorem DRs.cut {K : PySem.W.Frag} {H : Hp} {ds : List D} {vs : List V} (r : DRs K H ds vs) (lo hi : Option Int) : DRs K H (cutD ds lo hi) (cutV vs lo hi) := by
  unfold cutD cutV
  rw [r.length]
  exact (r.drop _).take _
def tSl' (t : TE') (tl th : TO') : TE' := fun σ L Φ => t σ L fun d L1 => tl σ L1 fun lo L2 => th σ L2 fun hi L3 => match d with
  | .ref a => ∃ ds, HasL L3 a ds ∧ ∀ p, Φ (.ref p) ((p, .lst (cutD ds lo hi)) :: L3)
  | .tup ds => Φ (.tup (cutD ds lo hi)) L3
  | _ => False
theorem cut_whole {vs : List D} {lo hi : Option Int} (h : HT.sIx vs.length 0 lo = 0 ∧ HT.sIx vs.length vs.length hi = vs.length) : cutD vs lo hi = vs := by
  unfold cutD
  rw [h.1, h.2]
  simp
theorem pe_slice' {lo hi : Option Expr} {tl th : TO'} {p2 : Pos} (he : PE' X e te) (hl : PO' X lo tl) (hu : PO' X hi th) : PE' X (.Subscript e (.Slice lo hi none p2) pos) (tSl' te tl th) :=
  lE (pe_slice (sl_list.or sl_tupA) he hl hu) fun σ H Q ⟨σd, L, Φ, hs, hl, ht, k⟩ => ⟨σd, L, _, hs, hl, ht, fun d L1 v H1 h1 t1 r1 l1 => ⟨σd, L1, _, hs.mono t1, l1, h1, fun o L2 H2 h2 t2 l2 => ⟨σd, L2, _, hs.mono (t1.trans t2), l2, h2, fun o2 L3 H3 h3 t3 l3 => by
    cases r1 with
    | ref =>
      obtain ⟨ds, hh, q⟩ := (show ∃ ds, _ from h3)
      obtain ⟨vs, e, r⟩ := l3.seq hh
      exact .inl ⟨_, vs, rfl, e, fun p hp => k _ _ _ _ (q p) (((t1.trans t2).trans t3).trans (TK.new hp)) .ref (l3.newl hp (r.cut _ _))⟩
    | tup s t =>
      have s3 := (t2.trans t3) _ _ s
      have tt := t.mono (t2.trans t3)
      refine .inr ⟨_, _, rfl, s3, fun hw => ?_, fun hw p hp => k _ _ _ _ h3 (((t1.trans t2).trans t3).trans (TK.new hp)) (dr_newt hp (tt.cut _ _)) (l3.mono_new hp)⟩
      rw [← t.length] at hw
      exact k _ _ _ _ h3 ((t1.trans t2).trans t3) (by rw [cut_whole hw]; exact .tup s3 tt) l3
    | _ => exact (show False from h3).elim⟩⟩⟩
def tRevL' (t : TE') : TE' := fun σ L Φ => t σ L fun d L1 => match d with
  | .ref a => ∃ ds, HasL L1 a ds ∧ ∀ p, Φ (.ref p) ((p, .lst ds.reverse) :: L1)
  | _ => False
theorem pe_revL' {k : Nat} {p1 p2 p3 : Pos} (he : PE' X e te) : PE' X (.Subscript e (.Slice none none (some (.UnaryOp .USub (.Constant (.int 1) k p1) p2)) p3) pos) (tRevL' te) :=
  lE (pe_revL he) fun σ H Q ⟨σd, L, Φ, hs, hl, ht, k⟩ => ⟨σd, L, _, hs, hl, ht, fun d L1 v H1 h1 t1 r1 l1 => by
    cases r1 with
    | ref =>
      obtain ⟨ds, hh, q⟩ := (show ∃ ds, _ from h1)
      obtain ⟨vs, e, r⟩ := l1.seq hh
      exact ⟨_, vs, rfl, e, fun p hp => k _ _ _ _ (q p) (t1.trans (TK.new hp)) .ref (l1.newl hp r.reverse)⟩
    | _ => exact (show False from h1).elim⟩
end
end DL

namespace DL
open PySem PySem.Spec PyProof.Rows L2
theorem HL.chgl {K : PySem.W.Frag} {H : Hp} {L L' : LL} {a : Addr} {ds ds' : List D} {vs vs' : List V} (l : HL K H L) (c : Chg L a (.lst ds) (.lst ds') L') (e : H a = some (.lst vs)) (r : DRs K H ds' vs') : TK K H (upd H a (.lst vs')) ∧ HL K (upd H a (.lst vs')) L' := by
  have t : TK K H (upd H a (.lst vs')) := TK.chg e trivial
  exact ⟨t, l.chg c rfl e trivial ⟨_, upd_same, r.mono t⟩⟩
/-! ### targets -/
abbrev TG' := D → Sl → LL → (Sl → LL → Prop) → Prop
abbrev TGs' := List D → Sl → LL → (Sl → LL → Prop) → Prop
def KontG (K : PySem.W.Frag) (H : Hp) (Q' : Sl → LL → Prop) (Q : L2.St → Hp → Prop) : Prop := ∀ σd L σ H', Q' σd L → TK K H H' → SR K H' σd σ → HL K H' L → Q σ H'
theorem KontG.mono {K : PySem.W.Frag} {H H1 : Hp} {Q' Q} (t : TK K H H1) (k : KontG K H Q' Q) : KontG K H1 Q' Q := fun a b c d h t1 => k a b c d h (t.trans t1)
def liftG (K : PySem.W.Frag) (g : TG') : TG := fun v σ H Q => ∃ d σd L Q', DR K H d v ∧ SR K H σd σ ∧ HL K H L ∧ g d σd L Q' ∧ KontG K H Q' Q
def liftGs (K : PySem.W.Frag) (g : TGs') : TGs := fun vs σ H Q => ∃ ds σd L Q', DRs K H ds vs ∧ SR K H σd σ ∧ HL K H L ∧ g ds σd L Q' ∧ KontG K H Q' Q
abbrev PG' (X : Cx) (e : Expr) (g : TG') : Prop := PG X e (liftG X.K g)
abbrev PGs' (X : Cx) (es : List Expr) (g : TGs') : Prop := PGs X es (liftGs X.K g)
section
variable {X : Cx} {pos : Pos} {e : Expr} {es : List Expr} {te ta tb : TE'}
theorem lG {tg : Expr} {g : TG} {g' : TG'} (h : PG X tg g) (f : ∀ v σ H Q, liftG X.K g' v σ H Q → g v σ H Q) : PG' X tg g' := ⟨fun pins s σ H v u Q I r q => h.run pins s σ H v u Q I r (f v σ H Q q)⟩
theorem lGs {ts : List Expr} {g : TGs} {g' : TGs'} (h : PGs X ts g) (f : ∀ v σ H Q, liftGs X.K g' v σ H Q → g v σ H Q) : PGs' X ts g' := ⟨fun pins s σ H v u Q I r q => h.run pins s σ H v u Q I r (f v σ H Q q)⟩
def gName' (i : Nat) : TG' := fun d σ L k => k (σ.set i (some d)) L
theorem pg_name' {i : Nat} {x : Str} (hN : X.N.Nodup) (hi : X.N[i]? = some x := by rfl) (hx : Loc X.env.scope x := by first | exact Or.inl rfl | exact Or.inr rfl) (hf : X.fn x = true ∨ X.env.scope.names.lookup x = some .local := by first | exact .inl rfl | exact .inr rfl | assumption) : PG' X (.Name x pos) (gName' i) :=
  lG (pg_name hN hi hx hf) fun v σ H Q ⟨d, σd, L, Q', r, hs, hl, h, k⟩ => k _ L _ H h .refl (hs.set r i) hl
def gNil' : TGs' := fun ds σ L k => match ds with
  | [] => k σ L
  | _ => False
def gCons' (g : TG') (u : TGs') : TGs' := fun ds σ L k => match ds with
  | [] => False
  | d :: r => g d σ L fun σ1 L1 => u r σ1 L1 k
theorem pgs_nil' : PGs' X [] gNil' := lGs pgs_nil fun v σ H Q ⟨ds, σd, L, Q', r, hs, hl, h, k⟩ => by
  cases r with
  | nil => exact ⟨rfl, k _ _ _ _ h .refl hs hl⟩
  | cons _ _ => exact (show False from h).elim
theorem pgs_cons' {g : TG'} {u : TGs'} (h1 : PG' X e g) (h2 : PGs' X es u) (hs : (assignEach (e :: es) X.env).map (·.2) = assign e X.env :: (assignEach es X.env).map (·.2) := by rfl) : PGs' X (e :: es) (gCons' g u) :=
  lGs (pgs_cons h1 h2 hs) fun v σ H Q ⟨ds, σd, L, Q', r, hs, hl, h, k⟩ => by
    cases r with
    | nil => exact (show False from h).elim
    | cons r1 r2 => exact ⟨_, _, rfl, _, σd, L, _, r1, hs, hl, h, fun σ1 L1 σ' H' h2 t s l => ⟨_, σ1, L1, _, r2.mono t, s, l, h2, k.mono t⟩⟩
def gTup' (n : Nat) (gs : TGs') : TG' := fun d σ L k => match d with
  | .tup ds => ds.length = n ∧ gs ds σ L k
  | _ => False
theorem pg_tup' {n k : Nat} {g : TGs'} (hc : X.calm = true) (h : PGs' X es g) (hn : (assignEach es X.env).length = n := by rfl) (hst : (assignEach es X.env).findIdx? (·.1) = none := by rfl) : PG' X (.Tuple es k pos) (gTup' n g) :=
  lG (pg_tup hc h hn hst) fun v σ H Q ⟨d, σd, L, Q', r, hs, hl, h, k⟩ => by
    cases r with
    | tup s t => exact ⟨_, _, rfl, s, by rw [← t.length]; exact (show _ ∧ _ from h).1, _, σd, L, Q', t, hs, hl, (show _ ∧ _ from h).2, k⟩
    | _ => exact (show False from h).elim
/-- o[i] = v of a list -/
def setD (d i v : D) (L : LL) (k : LL → Prop) : Prop := match d, i with
  | .ref a, .int i => ∃ ds L' j, Chg L a (.lst ds) (.lst (ds.set j v)) L' ∧ ixN ds.length i = some j ∧ k L'
  | _, _ => False
def gSub' (to ti : TE') : TG' := fun v σ L k => to σ L fun o L1 => ti σ L1 fun i L2 => setD o i v L2 fun L3 => k σ L3
theorem pg_sub' (ho : PE' X e ta) {i : Expr} (hi : PE' X i tb)
    (ha : ∀ v, assign (.Subscript e i pos) X.env v = (do
      let ov ← holding [v] (eval e X.env)
      let iv ← holding [v, ov] (eval i X.env)
      standAt pos
      holding [v, ov, iv] (setItem ov iv v)
      release [v, ov, iv] []) := by intro _; rfl) : PG' X (.Subscript e i pos) (gSub' ta tb) :=
  lG (pg_sub ho hi set_list ha) fun v σ H Q ⟨d, σd, L, Q', r, hs, hl, h, k⟩ => ⟨σd, L, _, hs, hl, h, fun o L1 vo H1 h1 t1 r1 l1 => ⟨σd, L1, _, hs.mono t1, l1, h1, fun ix L2 vi H2 h2 t2 r2 l2 => by
    cases r1 with
    | ref =>
      cases r2 with
      | int =>
        obtain ⟨ds, L', j, c, hj, q⟩ := (show ∃ ds, _ from h2)
        obtain ⟨vs, e, rs⟩ := l2.lst c.has
        have t3 : TK X.K H2 (upd H2 _ (.lst (vs.set j v))) := TK.chg e trivial
        refine ⟨_, vs, _, j, rfl, rfl, e, by rw [← rs.length]; exact hj, k _ _ _ _ q ((t1.trans t2).trans t3) (hs.mono ((t1.trans t2).trans t3)) (l2.chg c rfl e trivial ⟨_, upd_same, (rs.set (r.mono (t1.trans t2)) j).mono t3⟩)⟩
      | _ => exact (show False from h2).elim
    | _ => exact (show False from h2).elim⟩⟩
/-! o[a:b] = v -/
def gSlc (to ta tb : TE) : TG := fun v σ H Q => to σ H fun o H1 => ta σ H1 fun x H2 => ∃ i, x = .int i ∧ tb σ H2 fun y H3 => ∃ j, y = .int j ∧ ∃ l b xs ys, o = .ref l ∧ v = .ref b ∧ H3 l = some (.lst xs) ∧ H3 b = some (.lst ys) ∧ l ≠ b ∧ 0 ≤ i ∧ i ≤ j ∧ j ≤ xs.length ∧ xs.length + ys.length ≤ sizeLine ∧
  Q σ (upd H3 l (.lst (xs.take i.toNat ++ ys ++ xs.drop j.toNat)))
theorem pg_slice {o a b : Expr} {to ta tb : TE} {p2 : Pos} (ho : PE X o to) (ha : PE X a ta) (hb : PE X b tb)
    (has : ∀ v, assign (.Subscript o (.Slice (some a) (some b) none p2) pos) X.env v = (do
      let ov ← holding [v] (eval o X.env)
      let iv ← holding [v, ov] (eval (.Slice (some a) (some b) none p2) X.env)
      standAt pos
      holding [v, ov, iv] (setItem ov iv v)
      release [iv, v, ov] []) := by intro _; rfl) : PG X (.Subscript o (.Slice (some a) (some b) none p2) pos) (gSlc to ta tb) := by
  refine ⟨fun pins s σ H v u Q I r h => ?_⟩
  rw [has]
  refine wpAny_bind (wpAny_holding (thn (ho.run pins s σ H _ I h) fun ov s1 ⟨x, H1, I1, r1, q1⟩ => ?_))
  refine wpAny_bind (wpAny_holding ?_)
  refine wpAny_Slice (thn ((po_some ha).run pins s1 σ H1 (fun o H2 => match o with
    | some i => tb σ H2 fun y H3 => ∃ j, y = .int j ∧ ∃ l b xs ys, x = .ref l ∧ v = .ref b ∧ H3 l = some (.lst xs) ∧ H3 b = some (.lst ys) ∧ l ≠ b ∧ 0 ≤ i ∧ i ≤ j ∧ j ≤ xs.length ∧ xs.length + ys.length ≤ sizeLine ∧
        Q σ (upd H3 l (.lst (xs.take i.toNat ++ ys ++ xs.drop j.toNat)))
    | none => False) I1 q1) fun vl s2 ⟨o2, H2, I2, pl, q2⟩ => ?_)
  cases o2 with
  | none => exact q2.elim
  | some i =>
    refine thn ((po_some hb).run pins s2 σ H2 (fun o H3 => match o with
      | some j => ∃ l b xs ys, x = .ref l ∧ v = .ref b ∧ H3 l = some (.lst xs) ∧ H3 b = some (.lst ys) ∧ l ≠ b ∧ 0 ≤ i ∧ i ≤ j ∧ j ≤ xs.length ∧ xs.length + ys.length ≤ sizeLine ∧
          Q σ (upd H3 l (.lst (xs.take i.toNat ++ ys ++ xs.drop j.toNat)))
      | none => False) I2 q2) fun vu s3 ⟨o3, H3, I3, pu, q3⟩ => ?_
    cases o3 with
    | none => exact q3.elim
    | some j =>
      obtain ⟨l, b, xs, ys, ex, ev, hl, hb', hne, h0, hij, hj, hz, q⟩ := q3
      subst ex ev
      cases r
      cases r1
      rw [evalPart_none]
      refine wpAny_pure ?_
      have I4 : Inv X pins σ H3 { s3 with heap := s3.heap.push { cls := .type "slice", data := .fields #[vl, vu, .none] } } := I3.kept (t' := s3.toks) fun b ob q => Heap.get?_push_of_some _ q
      refine wpAny_bind (wpAny_standAt (wpAny_bind (wpAny_holding ?_)))
      have ra : RelV (.int i) vl := by cases pl; exact ⟨_, rfl⟩
      have rc : RelV (.int j) vu := by cases pu; exact ⟨_, rfl⟩
      exact set_slice I4 hl hb' hne (Heap.IsSliceOf.new _ vl vu .none) ra rc h0 hij hj hz fun s' I5 => wpAny_release ⟨σ, _, I5, q⟩
/-- .. -/
def setS (o v : D) (i j : Int) (L : LL) (k : LL → Prop) : Prop := match o, v with
  | .ref l, .ref b => ∃ ys L0, Sel L b (.lst ys) L0 ∧ ∃ xs L1, Chg L0 l (.lst xs) (.lst (xs.take i.toNat ++ ys ++ xs.drop j.toNat)) L1 ∧ (0 ≤ i ∧ i ≤ j ∧ j ≤ xs.length ∧ xs.length + ys.length ≤ 1000000) ∧ k ((b, .lst ys) :: L1)
  | _, _ => False
def intD (d : D) (k : Int → Prop) : Prop := match d with
  | .int i => k i
  | _ => False
def gSlc' (to ta tb : TE') : TG' := fun v σ L k => to σ L fun o L1 => ta σ L1 fun x L2 => intD x fun i => tb σ L2 fun y L3 => intD y fun j => setS o v i j L3 fun L4 => k σ L4
theorem pg_slice' {a b : Expr} {to ta tb : TE'} {p2 : Pos} (ho : PE' X e to) (ha : PE' X a ta) (hb : PE' X b tb)
    (has : ∀ v, assign (.Subscript e (.Slice (some a) (some b) none p2) pos) X.env v = (do
      let ov ← holding [v] (eval e X.env)
      let iv ← holding [v, ov] (eval (.Slice (some a) (some b) none p2) X.env)
      standAt pos
      holding [v, ov, iv] (setItem ov iv v)
      release [iv, v, ov] []) := by intro _; rfl) : PG' X (.Subscript e (.Slice (some a) (some b) none p2) pos) (gSlc' to ta tb) :=
  lG (pg_slice ho ha hb has) fun v σ H Q ⟨d, σd, L, Q', r, hs, hl, h, k⟩ => ⟨σd, L, _, hs, hl, h, fun o L1 vo H1 h1 t1 r1 l1 => ⟨σd, L1, _, hs.mono t1, l1, h1, fun ix L2 vi H2 h2 t2 r2 l2 => by
    cases r2 with
    | int =>
      refine ⟨_, rfl, σd, L2, _, hs.mono (t1.trans t2), l2, h2, fun jx L3 vj H3 h3 t3 r3 l3 => ?_⟩
      cases r3 with
      | int =>
        refine ⟨_, rfl, ?_⟩
        cases r1 with
        | ref =>
          cases r with
          | @ref bb =>
            obtain ⟨ys, L0, hb, xs, L1, c0, ⟨z1, z2, z3, z4⟩, q⟩ := (show ∃ ys, _ from h3)
            replace l3 := l3.perm hb.perm
            have c := Chg.there (x := (bb, LO.lst ys)) c0
            have hne := ((List.pairwise_cons.mp l3.nd).1 _ c0.has.mem rfl rfl).symm
            obtain ⟨vs, e1, s1⟩ := l3.lst c.has
            obtain ⟨us, e2, s2⟩ := l3.lst Has.here
            have n1 := s1.length
            have n2 := s2.length
            have tt := (t1.trans t2).trans t3
            refine ⟨_, _, vs, us, rfl, rfl, e1, e2, hne, z1, z2, by omega, szl (by omega), ?_⟩
            obtain ⟨t4, l4⟩ := l3.chgl c e1 (((s1.take _).append s2).append (s1.drop _))
            exact k _ _ _ _ q (tt.trans t4) (hs.mono (tt.trans t4)) l4
          | _ => exact (show False from h3).elim
        | _ => exact (show False from h3).elim
      | _ => exact (show False from h3).elim
    | _ => exact (show False from h2).elim⟩⟩
/-! o.f = v as a target within a tuple is made by its own statement rule where it stands alone -/
/-! ### statements -/
theorem ek_nx {K : PySem.W.Frag} {H : Hp} {D' : EndsD} {D : Ends} (k : EK K H D' D) : KontG K H D'.nx D.nx := k.nx
def tAsg' (t : TE') (g : TG') : TS' := fun D σ L => t σ L fun d L1 => g d σ L1 D.nx
theorem ps_asg' {tg : Expr} {g : TG'} (he : PE' X e te) (hg : PG' X tg g) (hs : swapsWithSole [tg] e pos.line X.env = pure false := by rfl) (hw : swappedStores [tg] e X.env = pure none := by rfl)
    (h1 : (assignEach [tg] X.env).map (·.2) = [assign tg X.env] := by rfl) : PS' X (.Assign [tg] e pos) (tAsg' te g) :=
  lS (ps_asg he hg hs hw h1) fun D σ H ⟨σd, L, D', hs, hl, ht, k⟩ => ⟨σd, L, _, hs, hl, ht, fun d L1 v H1 h1 t1 r1 l1 => ⟨d, σd, L1, _, r1, hs.mono t1, l1, h1, KontG.mono t1 k.nx⟩⟩
theorem ps_set' {i : Nat} {x : Str} {pos' : Pos} (hN : X.N.Nodup) (he : PE' X e te) (hi : X.N[i]? = some x := by rfl) (hx : Loc X.env.scope x := by first | exact Or.inl rfl | exact Or.inr rfl) (hs : swapsWith e (some (.Name x pos')) pos.line X.env = pure false := by rfl)
    (hf : X.fn x = true ∨ X.env.scope.names.lookup x = some .local := by first | exact .inl rfl | exact .inr rfl | assumption) : PS' X (.Assign [.Name x pos'] e pos) (tAsg' te (gName' i)) :=
  lS (ps_set hN hi hx he hs hf) fun D σ H ⟨σd, L, D', hs, hl, ht, k⟩ => ⟨σd, L, _, hs, hl, ht, fun d L1 v H1 h1 t1 r1 l1 => k.nx _ _ _ _ h1 t1 ((hs.mono t1).set r1 i) l1⟩
def tPar' (i j : Nat) (t : TA') : TS' := fun D σ L => t σ L fun ds L1 => match ds with
  | [d, e] => D.nx ((σ.set i (some d)).set j (some e)) L1
  | _ => False
theorem ps_par' {i j : Nat} {x y : Str} {a b : Expr} {ta : TA'} {px py pt : Pos} {kt k2 pt2} (hc : X.calm = true) (hN : X.N.Nodup) (hij : i ≠ j) (ha : PA' X [a, b] ta) (hi : X.N[i]? = some x := by rfl) (hj : X.N[j]? = some y := by rfl)
    (hx : X.env.scope.names.lookup x = some .local := by rfl) (hy : X.env.scope.names.lookup y = some .local := by rfl)
    (hw : swappedStores [.Tuple [.Name x px, .Name y py] kt pt] (.Tuple [a, b] k2 pt2) X.env = pure (some [x, y]) := by rfl)
    (hs : swapsWithSole [.Tuple [.Name x px, .Name y py] kt pt] (.Tuple [a, b] k2 pt2) pos.line X.env = pure false := by rfl) :
    PS' X (.Assign [.Tuple [.Name x px, .Name y py] kt pt] (.Tuple [a, b] k2 pt2) pos) (tPar' i j ta) :=
  lS (ps_par hc hN hi hj hij hx hy ha hw hs) fun D σ H ⟨σd, L, D', hs, hl, ht, k⟩ => ⟨σd, L, _, hs, hl, ht, fun ds L1 vs H1 h1 t1 r1 l1 => by
    match ds, r1, h1 with
    | [_, _], .cons ra (.cons rb .nil), h1 => exact ⟨_, _, rfl, k.nx _ _ _ _ h1 t1 (((hs.mono t1).set ra i).set rb j) l1⟩
    | [], _, h1 => exact (show False from h1).elim
    | [_], _, h1 => exact (show False from h1).elim
    | _ :: _ :: _ :: _, _, h1 => exact (show False from h1).elim⟩
def tPar3' (i j l : Nat) (t : TA') : TS' := fun D σ L => t σ L fun ds L1 => match ds with
  | [d, e, f] => D.nx (((σ.set i (some d)).set j (some e)).set l (some f)) L1
  | _ => False
theorem ps_par3' {i j l : Nat} {x y z : Str} {a b c : Expr} {ta : TA'} {px py pz pt : Pos} {kt k2 pt2} (hc : X.calm = true) (hN : X.N.Nodup) (hij : i ≠ j) (hil : i ≠ l) (hjl : j ≠ l) (ha : PA' X [a, b, c] ta) (hi : X.N[i]? = some x := by rfl) (hj : X.N[j]? = some y := by rfl) (hl : X.N[l]? = some z := by rfl)
    (hx : X.env.scope.names.lookup x = some .local := by rfl) (hy : X.env.scope.names.lookup y = some .local := by rfl) (hz : X.env.scope.names.lookup z = some .local := by rfl)
    (hw : swappedStores [.Tuple [.Name x px, .Name y py, .Name z pz] kt pt] (.Tuple [a, b, c] k2 pt2) X.env = pure (some [x, y, z]) := by rfl)
    (hs : swapsWithSole [.Tuple [.Name x px, .Name y py, .Name z pz] kt pt] (.Tuple [a, b, c] k2 pt2) pos.line X.env = pure false := by rfl) :
    PS' X (.Assign [.Tuple [.Name x px, .Name y py, .Name z pz] kt pt] (.Tuple [a, b, c] k2 pt2) pos) (tPar3' i j l ta) :=
  lS (ps_par3 hc hN hi hj hl hij hil hjl hx hy hz ha hw hs) fun D σ H ⟨σd, L, D', hs, hl, ht, k⟩ => ⟨σd, L, _, hs, hl, ht, fun ds L1 vs H1 h1 t1 r1 l1 => by
    match ds, r1, h1 with
    | [_, _, _], .cons ra (.cons rb (.cons rc .nil)), h1 => exact ⟨_, _, _, rfl, k.nx _ _ _ _ h1 t1 ((((hs.mono t1).set ra i).set rb j).set rc l) l1⟩
    | [], _, h1 => exact (show False from h1).elim
    | [_], _, h1 => exact (show False from h1).elim
    | [_, _], _, h1 => exact (show False from h1).elim
    | _ :: _ :: _ :: _ :: _, _, h1 => exact (show False from h1).elim⟩
def tDrop' (t : TE') : TS' := fun D σ L => t σ L fun _ L1 => D.nx σ L1
theorem ps_expr' (he : PE' X e te) (hs : swapsWith e none pos.line X.env = pure false := by rfl) : PS' X (.Expr e pos) (tDrop' te) :=
  lS (ps_expr he hs) fun D σ H ⟨σd, L, D', hs, hl, ht, k⟩ => ⟨σd, L, _, hs, hl, ht, fun d L1 v H1 h1 t1 r1 l1 => k.nx _ _ _ _ h1 t1 (hs.mono t1) l1⟩
def tRet' (t : TE') : TS' := fun D σ L => t σ L D.rt
theorem ps_ret' (he : PE' X e te) : PS' X (.Return (some e) pos) (tRet' te) :=
  lS (ps_ret he) fun D σ H ⟨σd, L, D', hs, hl, ht, k⟩ => ⟨σd, L, _, hs, hl, ht, fun d L1 v H1 h1 t1 r1 l1 => k.rt _ _ _ _ h1 t1 r1 l1⟩
def tRetN' : TS' := fun D _ L => D.rt .non L
theorem ps_retN' : PS' X (.Return none pos) tRetN' := lS ps_retN fun D σ H ⟨σd, L, D', hs, hl, ht, k⟩ => k.rt _ _ _ _ ht .refl .non hl
def tNext' : TS' := fun D σ L => D.nx σ L
def tSeq' (t u : TS') : TS' := fun D σ L => t { D with nx := fun σ1 L1 => u D σ1 L1 } σ L
variable {st : Stmt} {sts : List Stmt} {t u : TS'}
theorem pss_nil' : PSs' X [] tNext' := lSs pss_nil fun D σ H ⟨σd, L, D', hs, hl, ht, k⟩ => k.nx _ _ _ _ ht .refl hs hl
theorem pss_cons' (h1 : PS' X st t) (h2 : PSs' X sts u) : PSs' X (st :: sts) (tSeq' t u) :=
  lSs (pss_cons h1 h2) fun D σ H ⟨σd, L, D', hs, hl, ht, k⟩ => ⟨σd, L, _, hs, hl, ht, fun σ1 L1 σ' H' h t1 s l => ⟨σ1, L1, D', s, l, h, k.mono t1⟩, k.rt, k.bk, k.ct⟩
theorem pss_one' (h1 : PS' X st t) : PSs' X [st] t := pss_one h1
theorem ps_pass' : PS' X (.Pass pos) tNext' := lS ps_pass fun D σ H ⟨σd, L, D', hs, hl, ht, k⟩ => k.nx _ _ _ _ ht .refl hs hl
def tBreak' : TS' := fun D σ L => D.bk σ L
theorem ps_break' : PS' X (.Break pos) tBreak' := lS ps_break fun D σ H ⟨σd, L, D', hs, hl, ht, k⟩ => k.bk _ _ _ _ ht .refl hs hl
def tCont' : TS' := fun D σ L => D.ct σ L
theorem ps_continue' : PS' X (.Continue pos) tCont' := lS ps_continue fun D σ H ⟨σd, L, D', hs, hl, ht, k⟩ => k.ct _ _ _ _ ht .refl hs hl
def tNever' : TS' := fun _ _ _ => False
theorem ps_never' : PS' X st tNever' := lS ps_never fun D σ H ⟨σd, L, D', hs, hl, ht, k⟩ => ht.elim
def tIfS' (c : TT') (t u : TS') : TS' := fun D σ L => c σ L (fun L1 => t D σ L1) (fun L1 => u D σ L1)
theorem ps_if' {c : Expr} {a b : List Stmt} {tc : TT'} (hc : PT' X c tc) (ha : PSs' X a t) (hb : PSs' X b u) : PS' X (.If c a b pos) (tIfS' tc t u) :=
  lS (ps_if hc ha hb) fun D σ H ⟨σd, L, D', hs, hl, ht, k⟩ => ⟨σd, L, _, _, hs, hl, ht, fun L1 H1 q t l => by
    refine iteT ?_
    exact ⟨σd, L1, D', hs.mono t, l, q, k.mono t⟩, fun L1 H1 q t l => by
    refine iteF ?_
    exact ⟨σd, L1, D', hs.mono t, l, q, k.mono t⟩⟩
/-! name op= e -/
def OpIp (K : PySem.W.Frag) (f : F2) (r : TIp) : Prop := OpD K f r
def tAug' (i : Nat) (t : TE') (f : F2) : TS' := fun D σ L => Nth σ i fun x => t σ L fun y L1 => f x y L1 fun z L2 => D.nx (σ.set i (some z)) L2
theorem ps_aug' {i : Nat} {x : Str} {op : Operator} {f : F2} {ti : TIp} {pos' : Pos} (hN : X.N.Nodup) (od : OpD X.K f ti) (ho : PIp X op ti) (he : PE' X e te) (hi : X.N[i]? = some x := by rfl) (hx : Loc X.env.scope x := by first | exact Or.inl rfl | exact Or.inr rfl)
    (hf : X.fn x = true ∨ X.env.scope.names.lookup x = some .local := by first | exact .inl rfl | exact .inr rfl | assumption) : PS' X (.AugAssign (.Name x pos') op e pos) (tAug' i te f) :=
  lS (ps_aug hN hi hx he ho hf) fun D σ H ⟨σd, L, D', hs, hl, ht, k⟩ => by
    obtain ⟨d, v, e1, r, q⟩ := Nth.get hs ht
    exact ⟨v, e1, σd, L, _, hs, hl, q, fun d2 L1 v2 H1 h1 t1 r1 l1 => od _ _ _ _ _ _ _ _ (r.mono t1) r1 l1 h1 fun z L2 vz H2 h2 t2 r2 l2 => k.nx _ _ _ _ h2 (t1.trans t2) ((hs.mono (t1.trans t2)).set r2 i) l2⟩
theorem od_ipadd {K : PySem.W.Frag} : OpD K (fI fun i j => .int (i + j)) (ipI fun i j => i + j) := fun d1 d2 x y L H Φ Q r1 r2 l h k => by
  cases r1 <;> cases r2 <;> first
    | exact (show False from h).elim
    | exact ⟨_, _, rfl, rfl, k _ _ _ _ h .refl .int l⟩
theorem od_ipsub {K : PySem.W.Frag} : OpD K (fI fun i j => .int (i - j)) (ipI fun i j => i - j) := fun d1 d2 x y L H Φ Q r1 r2 l h k => by
  cases r1 <;> cases r2 <;> first
    | exact (show False from h).elim
    | exact ⟨_, _, rfl, rfl, k _ _ _ _ h .refl .int l⟩
/-! o.f = e -/
def putD (C : Addr) (f : Nat) (o v : D) (L : LL) (k : LL → Prop) : Prop := match o with
  | .ref a => ∃ fs L', Chg L a (.ins C fs) (.ins C (putN f v fs)) L' ∧ Nat.ble fs.length 900 = true ∧ k L'
  | _ => False
def tFldS' (C : Addr) (f : Nat) (to tv : TE') : TS' := fun D σ L => tv σ L fun v L1 => to σ L1 fun o L2 => putD C f o v L2 fun L3 => D.nx σ L3
theorem ps_fld' {C : Addr} {f : Nat} {x : Str} {value : Expr} {tv : TE'} {pos' : Pos} (cl : Cls X.K C) (na : NoAttr X.K C x) (ha : PE' X e te) (hv : PE' X value tv) (hx : fname f = x := by rfl) (hf : f < fnames.length := by decide)
    (hs : swapsWith value (some (.Attribute e x pos')) pos.line X.env = pure false := by rfl) : PS' X (.Assign [.Attribute e x pos'] value pos) (tFldS' C f te tv) :=
  lS (ps_fld ha hv hs) fun D σ H ⟨σd, L, D', hs, hl, ht, k⟩ => ⟨σd, L, _, hs, hl, ht, fun d L1 v H1 h1 t1 r1 l1 => ⟨σd, L1, _, hs.mono t1, l1, h1, fun o L2 vo H2 h2 t2 r2 l2 => by
    cases r2 with
    | ref =>
      obtain ⟨fs, L', c, z, q⟩ := (show ∃ fs, _ from h2)
      obtain ⟨dx, gs, e1, r⟩ := l2.has c.has
      have t3 : TK X.K H2 (upd H2 _ (.ins C dx (putF x v gs))) := TK.chg e1 trivial
      have zz : fs.length ≤ 900 := Nat.le_of_ble_eq_true z
      refine ⟨_, C, dx, gs, rfl, e1, cl, na, by rw [← r.length]; omega, k.nx _ _ _ _ q ((t1.trans t2).trans t3) (hs.mono ((t1.trans t2).trans t3)) (l2.chg c rfl e1 trivial ⟨dx, _, upd_same, ?_⟩)⟩
      have z2 := (r.put hf (r1.mono t2)).mono t3
      rw [hx] at z2
      exact z2
    | _ => exact (show False from h2).elim⟩⟩
end
end DL

namespace DL
open PySem PySem.Spec PyProof.Rows L2
/-! ### weakening -/
inductive Sub : Sl → Sl → Prop
  | nil : Sub [] []
  | any {x σ τ} : Sub σ τ → Sub (x :: σ) (none :: τ)
  | same {x y σ τ} : x = y → Sub σ τ → Sub (x :: σ) (y :: τ)
theorem SR.sub {K : PySem.W.Frag} {H : Hp} : ∀ {σd τ : Sl} {σ : L2.St}, SR K H σd σ → Sub σd τ → SR K H τ σ
  | _, _, _, .nil, .nil => .nil
  | _, _, _, .no r, .any s => .no (SR.sub r s)
  | _, _, _, .yes _ r, .any s => .no (SR.sub r s)
  | _, _, _, .no r, .same e s => by subst e; exact .no (SR.sub r s)
  | _, _, _, .yes a r, .same e s => by subst e; exact .yes a (SR.sub r s)
theorem Sub.refl : ∀ σ : Sl, Sub σ σ
  | [] => .nil
  | _ :: r => .same rfl (Sub.refl r)
/-- from here to an assertion -/
def To (σ : Sl) (L : LL) (W : Sl → LL → Prop) : Prop := ∃ σ1 L1, Sub σ σ1 ∧ Cov L L1 ∧ W σ1 L1
theorem To.mk {σ σ1 : Sl} {L L1 : LL} {W : Sl → LL → Prop} (a : Sub σ σ1) (b : Cov L L1) (c : W σ1 L1) : To σ L W := ⟨σ1, L1, a, b, c⟩
/-! ### while -/
@[irreducible] def Nxt (W : Nat → Sl → LL → Prop) (m : Nat) : Sl → LL → Prop := fun σ' L' => ∃ m', m' < m ∧ To σ' L' (W m')
theorem Nxt.elim {W : Nat → Sl → LL → Prop} {m : Nat} {σ : Sl} {L : LL} (h : Nxt W m σ L) : ∃ m', m' < m ∧ To σ L (W m') := by
  unfold Nxt at h
  exact h
@[irreducible] def Nx1 (W : Nat → Sl → LL → Prop) (i : Nat) : Sl → LL → Prop := fun σ' L' => To σ' L' (W (i + 1))
theorem Nx1.elim {W : Nat → Sl → LL → Prop} {m : Nat} {σ : Sl} {L : LL} (h : Nx1 W m σ L) : To σ L (W (m + 1)) := by
  unfold Nx1 at h
  exact h
@[irreducible] def WhileI (c : TT') (tb : TS') (D : EndsD) (σ : Sl) (L : LL) : Prop := ∃ W : Nat → Sl → LL → Prop, (∃ m, To σ L (W m)) ∧ ∀ m σ L, W m σ L →
  c σ L (fun L1 => tb { D with nx := Nxt W m, ct := Nxt W m, bk := D.nx } σ L1) (fun L1 => D.nx σ L1)
def tWhile' (c : TT') (tb : TS') : TS' := fun D σ L => WhileI c tb D σ L
section
variable {X : Cx} {pos : Pos} {e : Expr} {es : List Expr} {te ta tb : TE'}
theorem ps_while' {c : Expr} {body : List Stmt} {tc : TT'} {tb : TS'} (hp : PassesOwn (model X.prog X.w) X.A X.env X.xe) (hc : PT' X c tc) (hb : PSs' X body tb) : PS' X (.While c body [] pos) (tWhile' tc tb) :=
  lS (ps_while hp hc hb) fun D σ H ⟨σd, L, D', hs, hl, ht, k⟩ => by
    unfold tWhile' WhileI at ht
    obtain ⟨W, ⟨m0, σ1, L1, s1, c1, w1⟩, turn⟩ := ht
    refine ⟨fun m σ' H' => ∃ σd' L', SR X.K H' σd' σ' ∧ HL X.K H' L' ∧ W m σd' L' ∧ TK X.K H H', ⟨m0, σ1, L1, hs.sub s1, hl.cov c1, w1, .refl⟩, ?_⟩
    rintro m σ' H' ⟨σd', L', hs', hl', w', tk⟩
    refine ⟨σd', L', _, _, hs', hl', turn m σd' L' w', fun L2 H2 q t l => ?_, fun L2 H2 q t l => ?_⟩
    · refine iteT ?_
      refine ⟨fun σ3 H3 => ∃ m', m' < m ∧ ∃ σd' L', SR X.K H3 σd' σ3 ∧ HL X.K H3 L' ∧ W m' σd' L' ∧ TK X.K H H3, fun σ3 H3 h => h, ?_⟩
      have again : ∀ σd3 L3 σ3 H3, Nxt W m σd3 L3 → TK X.K H2 H3 → SR X.K H3 σd3 σ3 → HL X.K H3 L3 → ∃ m', m' < m ∧ ∃ σd' L', SR X.K H3 σd' σ3 ∧ HL X.K H3 L' ∧ W m' σd' L' ∧ TK X.K H H3 := fun σd3 L3 σ3 H3 h t3 s3 l3 => by
        obtain ⟨m', hm, σ4, L4, s4, c4, w4⟩ := h.elim
        exact ⟨m', hm, σ4, L4, s3.sub s4, l3.cov c4, w4, (tk.trans t).trans t3⟩
      exact ⟨σd', L2, _, hs'.mono t, l, q, again, (k.mono (tk.trans t)).rt, (k.mono (tk.trans t)).nx, again⟩
    · refine iteF ?_
      exact (k.mono tk).nx _ _ _ _ q t (hs'.mono t) l
/-! ### what is walked: the items, what stays -/
abbrev TI' := Sl → LL → (List D → (LL → Prop) → LL → Prop) → Prop
structure ItR (K : PySem.W.Frag) (H0 : Hp) (items : List D) (st : LL → Prop) (J : It) : Prop where
  go : ∀ i L H, TK K H0 H → HL K H L → st L → i < items.length → J.go i H
  yld : ∀ i L H x H' d, TK K H0 H → HL K H L → st L → items[i]? = some d → J.yld i H x H' → TK K H H' ∧ DR K H' d x ∧ HL K H' L
  stop : ∀ L H, TK K H0 H → HL K H L → st L → J.stop items.length H
def liftI (K : PySem.W.Frag) (w : TI') : TI := fun σ H R => ∃ σd L R', SR K H σd σ ∧ HL K H L ∧ w σd L R' ∧ ∀ items st L' J H', R' items st L' → ItR K H' items st J → TK K H H' → HL K H' L' → R J H'
abbrev PI' (X : Cx) (tg iter : Expr) (w : TI') : Prop := PI X tg iter (liftI X.K w)
theorem lI {tg iter : Expr} {w : TI} {w' : TI'} (h : PI X tg iter w) (f : ∀ σ H R, liftI X.K w' σ H R → w σ H R) : PI' X tg iter w' := ⟨fun pins s σ H R I q => h.run pins s σ H R I (f σ H R q)⟩
@[irreducible] def ForI (items : List D) (st : LL → Prop) (g : TG') (tb : TS') (D : EndsD) (σ : Sl) (L : LL) : Prop := ∃ W : Nat → Sl → LL → Prop, To σ L (W 0) ∧
  (∀ i σ L d, W i σ L → items[i]? = some d → st L ∧ g d σ L fun σ2 L2 => tb { D with nx := Nx1 W i, ct := Nx1 W i, bk := D.nx } σ2 L2) ∧ (∀ σ L, W items.length σ L → st L ∧ D.nx σ L)
def tFor' (w : TI') (g : TG') (tb : TS') : TS' := fun D σ L => w σ L fun items st L1 => ForI items st g tb D σ L1
theorem ps_for' {tg iter : Expr} {body : List Stmt} {w : TI'} {g : TG'} {tb : TS'} (hp : PassesOwn (model X.prog X.w) X.A X.env X.xe) (hc : X.calm = true) (hi : PI' X tg iter w) (hg : PG' X tg g) (hb : PSs' X body tb)
    (hs : ∀ x, foldedSetIterable iter X.env x = pure x := by intro _; rfl) : PS' X (.For tg iter body [] pos) (tFor' w g tb) :=
  lS (ps_for hp hc hi hg hb hs) fun D σ H ⟨σd, L, D', hs, hl, ht, k⟩ => ⟨σd, L, _, hs, hl, ht, fun items st L1 J H1 h1 J1 t1 l1 => by
    unfold ForI at h1
    obtain ⟨W, ⟨σ1, L2, s1, c1, w1⟩, turn, done⟩ := h1
    refine ⟨fun i m σ' H' => m = items.length - i ∧ i ≤ items.length ∧ ∃ σd' L', SR X.K H' σd' σ' ∧ HL X.K H' L' ∧ W i σd' L' ∧ TK X.K H1 H', ⟨items.length, by simp, Nat.zero_le _, σ1, L2, (hs.mono t1).sub s1, l1.cov c1, w1, .refl⟩, ?_⟩
    rintro i m σ' H' ⟨rfl, hi, σd', L', hs', hl', w', tk⟩
    by_cases hlt : i < items.length
    · obtain ⟨d, hd⟩ : ∃ d, items[i]? = some d := ⟨items[i], List.getElem?_eq_getElem hlt⟩
      obtain ⟨hst, hg'⟩ := turn i σd' L' d w' hd
      refine .inr ⟨J1.go i L' H' tk hl' hst hlt, fun σ3 H3 => ∃ σd' L', SR X.K H3 σd' σ3 ∧ HL X.K H3 L' ∧ W (i + 1) σd' L' ∧ TK X.K H1 H3, fun σ3 H3 h => ⟨items.length - (i + 1), by omega, rfl, hlt, h⟩, fun x H2 hy => ?_⟩
      obtain ⟨t2, r2, l2⟩ := J1.yld i L' H' x H2 d tk hl' hst hd hy
      refine ⟨d, σd', L', _, r2, hs'.mono t2, l2, hg', fun σd3 L3 σ3 H3 q3 t3 s3 l3 => ?_⟩
      have again : ∀ σd4 L4 σ4 H4, Nx1 W i σd4 L4 → TK X.K H3 H4 → SR X.K H4 σd4 σ4 → HL X.K H4 L4 → ∃ σd' L', SR X.K H4 σd' σ4 ∧ HL X.K H4 L' ∧ W (i + 1) σd' L' ∧ TK X.K H1 H4 := fun σd4 L4 σ4 H4 h t4 s4 l4 => by
        obtain ⟨σ5, L5, s5, c5, w5⟩ := h.elim
        exact ⟨σ5, L5, s4.sub s5, l4.cov c5, w5, ((tk.trans t2).trans t3).trans t4⟩
      have kk := k.mono (t1.trans ((tk.trans t2).trans t3))
      exact ⟨σd3, L3, _, s3, l3, q3, again, kk.rt, kk.nx, again⟩
    · have e : i = items.length := by omega
      subst e
      obtain ⟨hst, q⟩ := done σd' L' w'
      exact .inl ⟨J1.stop L' H' tk hl' hst, (k.mono (t1.trans tk)).nx _ _ _ _ q .refl hs' hl'⟩⟩
/-! over a list, a tuple, a range -/
theorem itr_list {K : PySem.W.Frag} {H0 : Hp} {a : Addr} {ds : List D} : ItR K H0 ds (fun L => HasL L a ds) (Itl K a) where
  go := fun i L H _ l st hi => by
    obtain ⟨vs, e, r⟩ := l.seq st
    have : i < vs.length := by rw [← r.length]; exact hi
    exact ⟨vs, vs[i], e, List.getElem?_eq_getElem this⟩
  yld := fun i L H x H' d _ l st hd hy => by
    obtain ⟨vs, e, r⟩ := l.seq st
    obtain ⟨e1, hy⟩ := hy
    subst e1
    obtain ⟨v, hv, rv⟩ := r.get hd
    have e2 : x = v := Option.some.inj ((hy vs e).symm.trans hv)
    subst e2
    exact ⟨.refl, rv, l⟩
  stop := fun L H _ l st => by
    obtain ⟨vs, e, r⟩ := l.seq st
    exact ⟨vs, e, by rw [r.length]; exact Nat.le_refl _⟩
theorem itr_tup {K : PySem.W.Frag} {H0 : Hp} {a : Addr} {ds : List D} {vs : List V} (s : SqT K H0 a vs) (r : DRs K H0 ds vs) : ItR K H0 ds (fun _ => True) (Itt K a) where
  go := fun i L H t l st hi => by
    have : i < vs.length := by rw [← r.length]; exact hi
    exact ⟨vs, vs[i], t _ _ s, List.getElem?_eq_getElem this⟩
  yld := fun i L H x H' d t l st hd hy => by
    obtain ⟨e1, hy⟩ := hy
    subst e1
    obtain ⟨v, hv, rv⟩ := r.get hd
    have e2 : x = v := Option.some.inj ((hy vs (t _ _ s)).symm.trans hv)
    subst e2
    exact ⟨.refl, rv.mono t, l⟩
  stop := fun L H t l st => ⟨vs, t _ _ s, by rw [r.length]; exact Nat.le_refl _⟩
/-- for x in a list or a tuple -/
def iLst' (t : TE') : TI' := fun σ L R => t σ L fun d L1 => match d with
  | .ref a => ∃ ds, HasL L1 a ds ∧ R ds (fun L => HasL L a ds) L1
  | _ => False
def iTup' (t : TE') : TI' := fun σ L R => t σ L fun d L1 => match d with
  | .tup ds => R ds (fun _ => True) L1
  | _ => False
theorem pi_list' {tg : Expr} (h : PE' X e te) : PI' X tg e (iLst' te) := lI (pi_list h) fun σ H R ⟨σd, L, R', hs, hl, ht, k⟩ => ⟨σd, L, _, hs, hl, ht, fun d L1 v H1 h1 t1 r1 l1 => by
  cases r1 with
  | ref =>
    obtain ⟨ds, hh, q⟩ := (show ∃ ds, _ from h1)
    obtain ⟨vs, e, r⟩ := l1.seq hh
    exact ⟨_, rfl, ⟨vs, e⟩, k _ _ _ _ _ q itr_list t1 l1⟩
  | _ => exact (show False from h1).elim⟩
theorem pi_tup' {tg : Expr} (h : PE' X e te) : PI' X tg e (iTup' te) := lI (pi_tup h) fun σ H R ⟨σd, L, R', hs, hl, ht, k⟩ => ⟨σd, L, _, hs, hl, ht, fun d L1 v H1 h1 t1 r1 l1 => by
  cases r1 with
  | tup s r => exact ⟨_, rfl, ⟨_, s⟩, k _ _ _ _ _ h1 (itr_tup s r) t1 l1⟩
  | _ => exact (show False from h1).elim⟩
/-- lo, lo + 1, .. -/
def rgD (lo hi : Int) : List D := (List.range (hi - lo).toNat).map fun i => .int (lo + (i : Nat))
theorem rgD_length (lo hi : Int) : (rgD lo hi).length = (hi - lo).toNat := by unfold rgD; rw [List.length_map, List.length_range]
theorem rgD_get {lo hi : Int} {i : Nat} {d : D} (h : (rgD lo hi)[i]? = some d) : i < (hi - lo).toNat ∧ d = .int (lo + i) := by
  unfold rgD at h
  rw [List.getElem?_map] at h
  cases e : (List.range (hi - lo).toNat)[i]? with
  | none => rw [e] at h; cases h
  | some j =>
    rw [e] at h
    obtain ⟨h1, h2⟩ := List.getElem?_eq_some_iff.mp e
    rw [List.getElem_range] at h2
    rw [List.length_range] at h1
    subst h2
    exact ⟨h1, (Option.some.inj h).symm⟩
theorem itr_range {K : PySem.W.Frag} {H0 : Hp} {lo hi : Int} : ItR K H0 (rgD lo hi) (fun _ => True) (Itr lo (hi - lo).toNat) where
  go := fun i L H _ l st hi => by rw [rgD_length] at hi; exact hi
  yld := fun i L H x H' d _ l st hd hy => by
    obtain ⟨e1, e2⟩ := hy
    subst e1 e2
    rw [(rgD_get hd).2]
    exact ⟨.refl, .int, l⟩
  stop := fun L H _ l st => by rw [rgD_length]; exact Nat.le_refl _
def rgOk (lo hi : Int) : Prop := -(2 ^ 62) ≤ lo ∧ lo < 2 ^ 62 ∧ -(2 ^ 62) ≤ hi ∧ hi < 2 ^ 62
def one (ds : List D) (k : D → Prop) : Prop := match ds with
  | [d] => k d
  | _ => False
def two (ds : List D) (k : D → D → Prop) : Prop := match ds with
  | [d, e] => k d e
  | _ => False
def three (ds : List D) (k : D → D → D → Prop) : Prop := match ds with
  | [d, e, f] => k d e f
  | _ => False
theorem one_dr {K : PySem.W.Frag} {H : Hp} {ds : List D} {vs : List V} {k : D → Prop} (r : DRs K H ds vs) (h : one ds k) : ∃ d v, ds = [d] ∧ vs = [v] ∧ DR K H d v ∧ k d := by
  match ds, r, h with
  | [_], .cons a .nil, h => exact ⟨_, _, rfl, rfl, a, h⟩
  | [], _, h => exact (show False from h).elim
  | _ :: _ :: _, _, h => exact (show False from h).elim
theorem two_dr {K : PySem.W.Frag} {H : Hp} {ds : List D} {vs : List V} {k : D → D → Prop} (r : DRs K H ds vs) (h : two ds k) : ∃ d e v u, ds = [d, e] ∧ vs = [v, u] ∧ DR K H d v ∧ DR K H e u ∧ k d e := by
  match ds, r, h with
  | [_, _], .cons a (.cons b .nil), h => exact ⟨_, _, _, _, rfl, rfl, a, b, h⟩
  | [], _, h => exact (show False from h).elim
  | [_], _, h => exact (show False from h).elim
  | _ :: _ :: _ :: _, _, h => exact (show False from h).elim
theorem three_dr {K : PySem.W.Frag} {H : Hp} {ds : List D} {vs : List V} {k : D → D → D → Prop} (r : DRs K H ds vs) (h : three ds k) : ∃ d e f v u w, ds = [d, e, f] ∧ vs = [v, u, w] ∧ DR K H d v ∧ DR K H e u ∧ DR K H f w ∧ k d e f := by
  match ds, r, h with
  | [_, _, _], .cons a (.cons b (.cons c .nil)), h => exact ⟨_, _, _, _, _, _, rfl, rfl, a, b, c, h⟩
  | [], _, h => exact (show False from h).elim
  | [_], _, h => exact (show False from h).elim
  | [_, _], _, h => exact (show False from h).elim
  | _ :: _ :: _ :: _ :: _, _, h => exact (show False from h).elim
theorem int_dr {K : PySem.W.Frag} {H : Hp} {d : D} {v : V} {k : Int → Prop} (r : DR K H d v) (h : intD d k) : ∃ i, d = .int i ∧ v = .int i ∧ k i := by
  cases r with
  | int => exact ⟨_, rfl, rfl, h⟩
  | _ => exact (show False from h).elim
def iRng1' (t : TA') : TI' := fun σ L R => t σ L fun ds L1 => one ds fun d => intD d fun j => rgOk 0 j ∧ R (rgD 0 j) (fun _ => True) L1
def iRng2' (t : TA') : TI' := fun σ L R => t σ L fun ds L1 => two ds fun d e => intD d fun i => intD e fun j => rgOk i j ∧ R (rgD i j) (fun _ => True) L1
variable {a b c : Expr} {tA : TA'}
theorem pi_range1' {tg : Expr} {p : Pos} (hg : Gl X "range") (hm : X.mg "range" = none) (ha : PA' X [a] tA) (hs : starEach [a] X.env = [(false, eval a X.env)] := by rfl) : PI' X tg (.Call (.Name "range" p) [a] [] pos) (iRng1' tA) :=
  lI (pi_range1 hg hm ha hs) fun σ H R ⟨σd, L, R', hs, hl, ht, k⟩ => ⟨σd, L, _, hs, hl, ht, fun ds L1 vs H1 h1 t1 r1 l1 => by
    obtain ⟨d, v, rfl, rfl, rd, q⟩ := one_dr r1 h1
    obtain ⟨j, rfl, rfl, ⟨_, _, z1, z2⟩, q⟩ := int_dr rd q
    refine ⟨j, rfl, z1, z2, ?_⟩
    have z := k _ _ _ (Itr 0 (j - 0).toNat) _ q itr_range t1 l1
    rw [Int.sub_zero] at z
    exact z⟩
theorem pi_range2' {tg : Expr} {p : Pos} (hg : Gl X "range") (hm : X.mg "range" = none) (ha : PA' X [a, b] tA) (hs : starEach [a, b] X.env = [(false, eval a X.env), (false, eval b X.env)] := by rfl) (hs2 : starEach [b] X.env = [(false, eval b X.env)] := by rfl) :
    PI' X tg (.Call (.Name "range" p) [a, b] [] pos) (iRng2' tA) :=
  lI (pi_range2 hg hm ha hs hs2) fun σ H R ⟨σd, L, R', hs, hl, ht, k⟩ => ⟨σd, L, _, hs, hl, ht, fun ds L1 vs H1 h1 t1 r1 l1 => by
    obtain ⟨d, e, v, u, rfl, rfl, rd, re, q⟩ := two_dr r1 h1
    obtain ⟨i, rfl, rfl, q⟩ := int_dr rd q
    obtain ⟨j, rfl, rfl, z, q⟩ := int_dr re q
    exact ⟨i, j, rfl, z, k _ _ _ _ _ q itr_range t1 l1⟩⟩
/-- i, i - 1, .. above j -/
def rgDn (lo hi : Int) : List D := (List.range (lo - hi).toNat).map fun i => .int (lo - (i : Nat))
theorem rgDn_length (lo hi : Int) : (rgDn lo hi).length = (lo - hi).toNat := by unfold rgDn; rw [List.length_map, List.length_range]
theorem rgDn_get {lo hi : Int} {i : Nat} {d : D} (h : (rgDn lo hi)[i]? = some d) : i < (lo - hi).toNat ∧ d = .int (lo - i) := by
  unfold rgDn at h
  rw [List.getElem?_map] at h
  cases e : (List.range (lo - hi).toNat)[i]? with
  | none => rw [e] at h; cases h
  | some j =>
    rw [e] at h
    obtain ⟨h1, h2⟩ := List.getElem?_eq_some_iff.mp e
    rw [List.getElem_range] at h2
    rw [List.length_range] at h1
    subst h2
    exact ⟨h1, (Option.some.inj h).symm⟩
theorem itr_rangeDn {K : PySem.W.Frag} {H0 : Hp} {lo hi : Int} : ItR K H0 (rgDn lo hi) (fun _ => True) (Itc lo (-1) (lo - hi).toNat) where
  go := fun i L H _ l st hi => by rw [rgDn_length] at hi; exact hi
  yld := fun i L H x H' d _ l st hd hy => by
    obtain ⟨e1, e2⟩ := hy
    subst e1 e2
    rw [(rgDn_get hd).2]
    rw [show lo + (i : Int) * -1 = lo - i by omega]
    exact ⟨.refl, .int, l⟩
  stop := fun L H _ l st => by rw [rgDn_length]; exact Nat.le_refl _
/-- range(i, j, -1) -/
def iRngDn' (t : TA') : TI' := fun σ L R => t σ L fun ds L1 => three ds fun d e f => intD d fun i => intD e fun j => intD f fun c => c = -1 ∧ rgOk i j ∧ R (rgDn i j) (fun _ => True) L1
theorem pi_rangeDn' {tg : Expr} {p : Pos} (hg : Gl X "range") (hm : X.mg "range" = none) (ha : PA' X [a, b, c] tA)
    (hs : starEach [a, b, c] X.env = (false, eval a X.env) :: starEach [b, c] X.env := by rfl) (hpl : (backTo pos (starEach [b, c] X.env)).any (·.1) = false := by rfl) : PI' X tg (.Call (.Name "range" p) [a, b, c] [] pos) (iRngDn' tA) :=
  lI (pi_range3 hg hm ha hs hpl) fun σ H R ⟨σd, L, R', hs, hl, ht, k⟩ => ⟨σd, L, _, hs, hl, ht, fun ds L1 vs H1 h1 t1 r1 l1 => by
    obtain ⟨d, e, f, v, u, w, rfl, rfl, rd, re, rf, q⟩ := three_dr r1 h1
    obtain ⟨i, rfl, rfl, q⟩ := int_dr rd q
    obtain ⟨j, rfl, rfl, q⟩ := int_dr re q
    obtain ⟨c, rfl, rfl, rfl, ⟨z1, z2, z3, z4⟩, q⟩ := int_dr rf q
    exact ⟨i, j, -1, _, rfl, RgC.neg z1 z2 z3 z4, k _ _ _ _ _ q itr_rangeDn t1 l1⟩⟩
/-- enumerate(list) -/
def enumD (ds : List D) : List D := (List.range ds.length).map fun i => .tup [.int (i : Nat), ds.getD i .non]
theorem enumD_length (ds : List D) : (enumD ds).length = ds.length := by unfold enumD; rw [List.length_map, List.length_range]
theorem enumD_get {ds : List D} {i : Nat} {d : D} (h : (enumD ds)[i]? = some d) : ∃ e, ds[i]? = some e ∧ d = .tup [.int (i : Nat), e] := by
  have hl : i < ds.length := by
    have := (List.getElem?_eq_some_iff.mp h).1
    rw [enumD_length] at this
    exact this
  unfold enumD at h
  rw [List.getElem?_map, List.getElem?_range hl] at h
  refine ⟨ds[i], List.getElem?_eq_getElem hl, ?_⟩
  rw [← Option.some.inj h]
  simp [List.getD, List.getElem?_eq_getElem hl]
theorem itr_enum {K : PySem.W.Frag} {H0 : Hp} {a : Addr} {ds : List D} : ItR K H0 (enumD ds) (fun L => HasL L a ds) (Ite K a) where
  go := fun i L H _ l st hi => by
    rw [enumD_length] at hi
    obtain ⟨vs, e, r⟩ := l.seq st
    have : i < vs.length := by rw [← r.length]; exact hi
    exact ⟨vs, vs[i], e, List.getElem?_eq_getElem this⟩
  yld := fun i L H x H' d _ l st hd hy => by
    obtain ⟨vs, e, r⟩ := l.seq st
    obtain ⟨T, y, rfl, hT, rfl, hy⟩ := hy
    obtain ⟨de, h1, rfl⟩ := enumD_get hd
    obtain ⟨v, hv, rv⟩ := r.get h1
    have e2 : y = v := Option.some.inj ((hy vs e).symm.trans hv)
    subst e2
    exact ⟨TK.new hT, dr_newt hT (.cons .int (.cons rv .nil)), l.mono_new hT⟩
  stop := fun L H _ l st => by
    obtain ⟨vs, e, r⟩ := l.seq st
    exact ⟨vs, e, by rw [enumD_length, r.length]; exact Nat.le_refl _⟩
def iEnum' (t : TA') : TI' := fun σ L R => t σ L fun ds L1 => one ds fun d => match d with
  | .ref a => ∃ xs, HasL L1 a xs ∧ R (enumD xs) (fun L => HasL L a xs) L1
  | _ => False
theorem pi_enum' {p tpos : Pos} {elts : List Expr} {kk : Nat} (hg : Gl X "enumerate") (hm : X.mg "enumerate" = none) (ha : PA' X [e] tA) (hs : starEach [e] X.env = [(false, eval e X.env)] := by rfl) :
    PI' X (.Tuple elts kk tpos) (.Call (.Name "enumerate" p) [e] [] pos) (iEnum' tA) :=
  lI (pi_enum hg hm ha hs) fun σ H R ⟨σd, L, R', hs, hl, ht, k⟩ => ⟨σd, L, _, hs, hl, ht, fun ds L1 vs H1 h1 t1 r1 l1 => by
    obtain ⟨d, v, rfl, rfl, rd, q⟩ := one_dr r1 h1
    cases rd with
    | ref =>
      obtain ⟨xs, hh, q⟩ := (show ∃ xs, _ from q)
      obtain ⟨us, e, r⟩ := l1.seq hh
      exact ⟨_, us, rfl, e, k _ _ _ _ _ q itr_enum t1 l1⟩
    | _ => exact (show False from q).elim⟩
/-- zip(list, list) -/
def zipD (xs ys : List D) : List D := (xs.zip ys).map fun p => .tup [p.1, p.2]
theorem itr_zip {K : PySem.W.Frag} {H0 : Hp} {a b : Addr} {xs ys : List D} : ItR K H0 (zipD xs ys) (fun L => HasL L a xs ∧ HasL L b ys) (Itz K a b) where
  go := fun i L H _ l st hi => by
    unfold zipD at hi
    rw [List.length_map, List.length_zip] at hi
    obtain ⟨vs, e, r⟩ := l.seq st.1
    obtain ⟨us, e2, r2⟩ := l.seq st.2
    have h1 : i < vs.length := by rw [← r.length]; omega
    have h2 : i < us.length := by rw [← r2.length]; omega
    exact ⟨vs, us, vs[i], us[i], e, e2, List.getElem?_eq_getElem h1, List.getElem?_eq_getElem h2⟩
  yld := fun i L H x H' d _ l st hd hy => by
    obtain ⟨vs, e, r⟩ := l.seq st.1
    obtain ⟨us, e2, r2⟩ := l.seq st.2
    obtain ⟨T, y, z, rfl, hT, rfl, hy, hz⟩ := hy
    unfold zipD at hd
    rw [List.getElem?_map] at hd
    cases eq : (xs.zip ys)[i]? with
    | none => rw [eq] at hd; cases hd
    | some pq =>
      rw [eq] at hd
      obtain ⟨p1, p2⟩ := pq
      obtain ⟨g1, g2⟩ := List.getElem?_zip_eq_some.mp eq
      obtain ⟨v, hv, rv⟩ := r.get g1
      obtain ⟨u, hu, ru⟩ := r2.get g2
      have e3 : y = v := Option.some.inj ((hy vs e).symm.trans hv)
      have e4 : z = u := Option.some.inj ((hz us e2).symm.trans hu)
      subst e3 e4
      rw [← Option.some.inj hd]
      exact ⟨TK.new hT, dr_newt hT (.cons rv (.cons ru .nil)), l.mono_new hT⟩
  stop := fun L H _ l st => by
    obtain ⟨vs, e, r⟩ := l.seq st.1
    obtain ⟨us, e2, r2⟩ := l.seq st.2
    refine ⟨vs, us, e, e2, ?_⟩
    unfold zipD
    rw [List.length_map, List.length_zip, r.length, r2.length]
    omega
def iZip' (t : TA') : TI' := fun σ L R => t σ L fun ds L1 => two ds fun d e => match d, e with
  | .ref a, .ref b => ∃ xs, HasL L1 a xs ∧ ∃ ys, HasL L1 b ys ∧ R (zipD xs ys) (fun L => HasL L a xs ∧ HasL L b ys) L1
  | _, _ => False
theorem pi_zip' {e2 : Expr} {p tpos : Pos} {elts : List Expr} {kk : Nat} (hg : Gl X "zip") (hm : X.mg "zip" = none) (ha : PA' X [e, e2] tA)
    (hs : starEach [e, e2] X.env = (false, eval e X.env) :: starEach [e2] X.env := by rfl) (hpl : (backTo pos (starEach [e2] X.env)).any (·.1) = false := by rfl) :
    PI' X (.Tuple elts kk tpos) (.Call (.Name "zip" p) [e, e2] [] pos) (iZip' tA) :=
  lI (pi_zip hg hm ha hs hpl) fun σ H R ⟨σd, L, R', hs, hl, ht, k⟩ => ⟨σd, L, _, hs, hl, ht, fun ds L1 vs H1 h1 t1 r1 l1 => by
    obtain ⟨d, d2, v, v2, rfl, rfl, rd, rd2, q⟩ := two_dr r1 h1
    cases rd with
    | ref =>
      cases rd2 with
      | ref =>
        obtain ⟨xs, hh, ys, hh2, q⟩ := (show ∃ xs, _ from q)
        obtain ⟨us, e, r⟩ := l1.seq hh
        obtain ⟨ws, e3, r3⟩ := l1.seq hh2
        exact ⟨_, _, us, ws, rfl, e, e3, k _ _ _ _ _ q itr_zip t1 l1⟩
      | _ => exact (show False from q).elim
    | _ => exact (show False from q).elim⟩
end
end DL

namespace DL
open PySem PySem.Spec PyProof.Rows L2
/-! ### contracts -/
abbrev Ct := List D → LL → DK → Prop
def liftC (K : PySem.W.Frag) (c : Ct) : Sp := fun vs H Q _ => ∃ ds L Φ, DRs K H ds vs ∧ HL K H L ∧ c ds L Φ ∧ Kont K H Φ Q
/-- a def called by n values written, dd filling up -/
structure Fnd (P : Program) (w : World) (K : PySem.W.Frag) (mg : Str → Option Value) (base : Heap) (x : Str) (n : Nat) (dd : List D) (c : Ct) (k : Nat) : Prop where
  ex : ∃ f fd ps ds dvs, mg x = some (.ref f) ∧ PySem.W.keepIn K (.ref f) = true ∧ Binds K fd ps ds ∧ Vals dvs ds ∧ (∀ H, DRs K H dd dvs) ∧ FnOk P w K mg base CX0 k f fd ps (liftC K c)
/-- a method of the class at C -/
structure Mtd (P : Program) (w : World) (K : PySem.W.Frag) (mg : Str → Option Value) (base : Heap) (C : Addr) (m : Str) (dd : List D) (c : Ct) (k : Nat) : Prop where
  cl : Cls K C
  nf : ∀ i, i < fnames.length → fname i ≠ m
  ex : ∃ f fd ps ds dvs, Meth K C m f ∧ Binds K fd ps ds ∧ Vals dvs ds ∧ (∀ H, DRs K H dd dvs) ∧ FnOk P w K mg base CX0 k f fd ps (liftC K c)
/-- a class made by its __init__ -/
structure Mkd (P : Program) (w : World) (K : PySem.W.Frag) (mg : Str → Option Value) (base : Heap) (x : Str) (C : Addr) (dd : List D) (c : Ct) (k : Nat) : Prop where
  ex : ∃ f fd ps ds dvs, Mk K C f ∧ mg x = some (.ref C) ∧ Binds K fd ps ds ∧ Vals dvs ds ∧ (∀ H, DRs K H dd dvs) ∧ FnOk P w K mg base CX0 k f fd ps (liftC K c)
/-- called with keywords: g puts the positional and the keywords' values (and defaults) in the parameters' order -/
structure Fnk (P : Program) (w : World) (K : PySem.W.Frag) (mg : Str → Option Value) (base : Heap) (x : Str) (n : Nat) (ks : List Str) (g : List D → List D → List D) (c : Ct) (k : Nat) : Prop where
  ex : ∃ f fd ps gU gV, mg x = some (.ref f) ∧ PySem.W.keepIn K (.ref f) = true ∧ KBn K fd ps n ks gU gV ∧ (∀ H ds es vs us, DRs K H ds vs → DRs K H es us → ds.length = n → es.length = ks.length → DRs K H (g ds es) (gV vs us)) ∧ FnOk P w K mg base CX0 k f fd ps (liftC K c)
section
variable {X : Cx} {pos : Pos} {e o : Expr} {es : List Expr} {te ta tb : TE'} {t : TA'} {x : Str} {c : Ct} {k n : Nat} {dd : List D}
def tCall' (c : Ct) (dd : List D) (t : TA') : TE' := fun σ L Φ => t σ L fun ds L1 => c (ds ++ dd) L1 Φ
theorem DRs.app {K : PySem.W.Frag} {H : Hp} {ds es : List D} {vs us : List V} (a : DRs K H ds vs) (b : DRs K H es us) : DRs K H (ds ++ es) (vs ++ us) := a.append b
theorem lift_call {dvs : List V} {σ : L2.St} {H : Hp} {Q : VK} (hdd : ∀ H, DRs X.K H dd dvs) (h : liftE X.K (tCall' c dd t) σ H Q) : tCall (liftC X.K c) dvs E0 (liftA X.K t) σ H Q := by
  obtain ⟨σd, L, Φ, hs, hl, ht, k⟩ := h
  exact ⟨σd, L, _, hs, hl, ht, fun ds L1 vs H1 h1 t1 r1 l1 => ⟨_, L1, Φ, r1.append (hdd H1), l1, h1, k.mono t1⟩⟩
theorem pe_call' {p : Pos} (F : Fnd X.prog X.w X.K X.mg X.base x n dd c k) (hr : Room k X.A) (hg : Gl X x) (ha : PA' X (e :: es) t) (hd : (x == ("__debug__" : Str)) = false := by decide)
    (he : starEach (e :: es) X.env = (false, eval e X.env) :: starEach es X.env := by rfl) (hpl : (backTo pos (starEach es X.env)).any (·.1) = false := by rfl) : PE' X (.Call (.Name x p) (e :: es) [] pos) (tCall' c dd t) := by
  obtain ⟨f, fd, ps, ds, dvs, hm, hk, hb, hv, hdd, F⟩ := F.ex
  exact lE (pe_call F hr hg hm hk hb hv pass0 ha (hdb := hd) (he := he) (hpl := hpl)) fun σ H Q h => lift_call hdd h
def tCall0' (c : Ct) (dd : List D) : TE' := fun σ L Φ => c dd L Φ
theorem pe_call0' {p : Pos} (F : Fnd X.prog X.w X.K X.mg X.base x n dd c k) (hr : Room k X.A) (hg : Gl X x) (hd : (x == ("__debug__" : Str)) = false := by decide) : PE' X (.Call (.Name x p) [] [] pos) (tCall0' c dd) := by
  obtain ⟨f, fd, ps, ds, dvs, hm, hk, hb, hv, hdd, F⟩ := F.ex
  exact lE (pe_call0 F hr hg hm hk hb hv pass0 (hdb := hd)) fun σ H Q ⟨σd, L, Φ, hs, hl, ht, k⟩ => ⟨dd, L, Φ, hdd H, hl, ht, k⟩
def tMeth' (C : Addr) (c : Ct) (dd : List D) (to : TE') (t : TA') : TE' := fun σ L Φ => to σ L fun d L1 => match d with
  | .ref a => ∃ fs, Has L1 a (.ins C fs) ∧ t σ L1 fun ds L2 => c (.ref a :: (ds ++ dd)) L2 Φ
  | _ => False
theorem pe_meth' {C : Addr} {m : Str} {apos : Pos} {pl : Sem Bool} (F : Mtd X.prog X.w X.K X.mg X.base C m dd c k) (hr : Room k X.A) (he : PE' X o te) (ha : PA' X (e :: es) t)
    (hst : starEach (e :: es) X.env = (false, eval e X.env) :: starEach es X.env := by rfl) (hpl : (backTo pos (starEach es X.env)).any (·.1) = false := by rfl)
    (ht : eval (.Call (.Attribute o m apos) (e :: es) [] pos) X.env = (do
      let ov ← eval o X.env
      standAt apos.atName
      let (f, first) ← holding [ov] (getMethod ov m pl)
      callWith pos f first (backTo pos (starEach (e :: es) X.env)) (backToKw pos (keywordEach [] X.env))) := by rfl) : PE' X (.Call (.Attribute o m apos) (e :: es) [] pos) (tMeth' C c dd te t) := by
  obtain ⟨cl, nf, f, fd, ps, ds, dvs, hm, hb, hv, hdd, F⟩ := F
  exact lE (pe_meth he cl hm F hr hb hv pass0 ha hst hpl ht) fun σ H Q ⟨σd, L, Φ, hs, hl, ht, k⟩ => ⟨σd, L, _, hs, hl, ht, fun d L1 v H1 h1 t1 r1 l1 => by
    cases r1 with
    | ref =>
      obtain ⟨fs, hh, q⟩ := (show ∃ fs, _ from h1)
      obtain ⟨dx, gs, e1, r⟩ := l1.has hh
      exact ⟨_, dx, gs, rfl, e1, r.none_of nf, σd, L1, _, hs.mono t1, l1, q, fun ds L2 vs H2 h2 t2 r2 l2 => ⟨_, L2, Φ, .cons .ref (r2.append (hdd H2)), l2, h2, k.mono (t1.trans t2)⟩⟩
    | _ => exact (show False from h1).elim⟩
def tMeth0' (C : Addr) (c : Ct) (dd : List D) (to : TE') : TE' := fun σ L Φ => to σ L fun d L1 => match d with
  | .ref a => ∃ fs, Has L1 a (.ins C fs) ∧ c (.ref a :: dd) L1 Φ
  | _ => False
theorem pe_meth0' {C : Addr} {m : Str} {apos : Pos} {pl : Sem Bool} (F : Mtd X.prog X.w X.K X.mg X.base C m dd c k) (hr : Room k X.A) (he : PE' X o te)
    (ht : eval (.Call (.Attribute o m apos) [] [] pos) X.env = (do
      let ov ← eval o X.env
      standAt apos.atName
      let (f, first) ← holding [ov] (getMethod ov m pl)
      callWith pos f first (backTo pos (starEach [] X.env)) (backToKw pos (keywordEach [] X.env))) := by rfl) : PE' X (.Call (.Attribute o m apos) [] [] pos) (tMeth0' C c dd te) := by
  obtain ⟨cl, nf, f, fd, ps, ds, dvs, hm, hb, hv, hdd, F⟩ := F
  exact lE (pe_meth0 he cl hm F hr hb hv pass0 ht) fun σ H Q ⟨σd, L, Φ, hs, hl, ht, k⟩ => ⟨σd, L, _, hs, hl, ht, fun d L1 v H1 h1 t1 r1 l1 => by
    cases r1 with
    | ref =>
      obtain ⟨fs, hh, q⟩ := (show ∃ fs, _ from h1)
      obtain ⟨dx, gs, e1, r⟩ := l1.has hh
      exact ⟨_, dx, gs, rfl, e1, r.none_of nf, _, L1, Φ, .cons .ref (hdd H1), l1, q, k.mono t1⟩
    | _ => exact (show False from h1).elim⟩
def tMake' (C : Addr) (c : Ct) (dd : List D) (t : TA') : TE' := fun σ L Φ => t σ L fun ds L1 => ∀ p, c (.ref p :: (ds ++ dd)) ((p, .ins C []) :: L1) fun _ L2 => Φ (.ref p) L2
/-- what __init__ hands back is None: the contract's continuation is asked of it -/
def NonOnly (c : Ct) : Prop := ∀ ds L Φ, c ds L Φ → c ds L fun d L' => d = .non ∧ Φ d L'
theorem new_ins {K : PySem.W.Frag} {H : Hp} {L : LL} {p dx C : Addr} (l : HL K H L) (hp : H p = none) (hd : H dx = none) (hne : dx ≠ p) :
    TK K H (upd (upd H dx (.own p)) p (.ins C dx [])) ∧ HL K (upd (upd H dx (.own p)) p (.ins C dx [])) ((p, .ins C []) :: L) := by
  have h1 : (upd H dx (.own p)) p = none := by rw [upd_ne (Ne.symm hne)]; exact hp
  exact ⟨(TK.new hd).trans (TK.new h1), (l.mono_new hd).new h1 ⟨dx, [], upd_same, .nil⟩⟩
theorem pe_make' {C : Addr} {p : Pos} (F : Mkd X.prog X.w X.K X.mg X.base x C dd c k) (nn : NonOnly c) (hr : Room (k + 1) X.A) (hg : Gl X x) (ha : PA' X (e :: es) t) (hd : (x == ("__debug__" : Str)) = false := by decide)
    (he : starEach (e :: es) X.env = (false, eval e X.env) :: starEach es X.env := by rfl) (hpl : (backTo pos (starEach es X.env)).any (·.1) = false := by rfl) : PE' X (.Call (.Name x p) (e :: es) [] pos) (tMake' C c dd t) := by
  obtain ⟨f, fd, ps, ds, dvs, M, hm, hb, hv, hdd, F⟩ := F.ex
  exact lE (pe_make M F hr hg hm hb hv pass0 ha (hdb := hd) (he := he) (hpl := hpl)) fun σ H Q ⟨σd, L, Φ, hs, hl, ht, k⟩ => ⟨σd, L, _, hs, hl, ht, fun ds L1 vs H1 h1 t1 r1 l1 q dx hq hdx hne => by
    obtain ⟨t2, l2⟩ := new_ins (C := C) l1 hq hdx hne
    exact ⟨_, _, _, .cons .ref ((r1.append (hdd H1)).mono t2), l2, nn _ _ _ (h1 q), fun d L3 v H3 h3 t3 r3 l3 => by
      obtain ⟨rfl, h3⟩ := h3
      cases r3
      exact ⟨rfl, k _ _ _ _ h3 ((t1.trans t2).trans t3) .ref l3⟩⟩⟩
def tMake0' (C : Addr) (c : Ct) (dd : List D) : TE' := fun σ L Φ => ∀ p, c (.ref p :: dd) ((p, .ins C []) :: L) fun _ L2 => Φ (.ref p) L2
theorem pe_make0' {C : Addr} {p : Pos} (F : Mkd X.prog X.w X.K X.mg X.base x C dd c k) (nn : NonOnly c) (hr : Room (k + 1) X.A) (hg : Gl X x) (hd : (x == ("__debug__" : Str)) = false := by decide) : PE' X (.Call (.Name x p) [] [] pos) (tMake0' C c dd) := by
  obtain ⟨f, fd, ps, ds, dvs, M, hm, hb, hv, hdd, F⟩ := F.ex
  exact lE (pe_make0 M F hr hg hm hb hv pass0 (hdb := hd)) fun σ H Q ⟨σd, L, Φ, hs, hl, ht, k⟩ q dx hq hdx hne => by
    obtain ⟨t2, l2⟩ := new_ins (C := C) hl hq hdx hne
    exact ⟨_, _, _, .cons .ref ((hdd H).mono t2), l2, nn _ _ _ (ht q), fun d L3 v H3 h3 t3 r3 l3 => by
      obtain ⟨rfl, h3⟩ := h3
      cases r3
      exact ⟨rfl, k _ _ _ _ h3 (t2.trans t3) .ref l3⟩⟩
def PK' (X : Cx) (kws : List Keyword) (t : TA') : Prop := PK X kws (liftA X.K t)
theorem pk_nil' : PK' X [] tNil' := ⟨fun pos pins s σ H Q I ⟨σd, L, Φ, hs, hl, ht, k⟩ => pk_nil.run pos pins s σ H Q I (k _ _ _ _ ht .refl .nil hl)⟩
theorem pk_cons' {kws : List Keyword} {nm : Option Str} {kpos : Pos} (h : PE' X e te) (h2 : PK' X kws t) : PK' X (⟨nm, e, kpos⟩ :: kws) (tCons' te t) :=
  ⟨fun pos pins s σ H Q I ⟨σd, L, Φ, hs, hl, ht, k⟩ => (pk_cons h h2).run pos pins s σ H Q I ⟨σd, L, _, hs, hl, ht, fun d L1 v H1 h1 t1 r1 l1 => ⟨σd, L1, _, hs.mono t1, l1, h1, fun ds L2 vs H2 h2 t2 r2 l2 => k _ _ _ _ h2 (t1.trans t2) (.cons (r1.mono t2) r2) l2⟩⟩⟩
def tCallK' (n m : Nat) (g : List D → List D → List D) (c : Ct) (t tk : TA') : TE' := fun σ L Φ => t σ L fun ds L1 => tk σ L1 fun es L2 => ds.length = n ∧ es.length = m ∧ c (g ds es) L2 Φ
end
/-! ### the proof of a def -/
def startD (n : Nat) (ds : List D) : Sl := ds.map some ++ List.replicate (n - ds.length) none
theorem SR.nones {K : PySem.W.Frag} {H : Hp} : ∀ n : Nat, SR K H (List.replicate n none) (List.replicate n none)
  | 0 => .nil
  | n + 1 => .no (SR.nones n)
theorem SR.start {K : PySem.W.Frag} {H : Hp} {m : List (Option D)} {m' : L2.St} (t : SR K H m m') : ∀ {ds : List D} {vs : List V}, DRs K H ds vs → SR K H (ds.map some ++ m) (vs.map some ++ m')
  | _, _, .nil => t
  | _, _, .cons a r => .yes a (SR.start t r)
theorem sr_start {K : PySem.W.Frag} {H : Hp} {N : List Str} {ds : List D} {vs : List V} (r : DRs K H ds vs) : SR K H (startD N.length ds) (L2.start N vs) := by
  unfold startD L2.start
  rw [r.length]
  exact SR.start (SR.nones _) r
/-- the ends of a def's body -/
inductive Ret (L : LL) (k : LL → Prop) : Prop
  | mk (L2 : LL) : Cov L L2 → k L2 → Ret L k
def endD (Φ : DK) : EndsD := { nx := fun _ L => Ret L (Φ .non), rt := fun d L => Ret L (Φ d) }
section
variable {P : Program} {w : World} {K : PySem.W.Frag} {mg : Str → Option Value} {base : Heap} {x qual : Str} {params : Arguments} {body : List Stmt} {scope : Scope} {dvs : List V} {kws : List (Str × V)} {f : Addr} {fd : FuncData} {ps N : List Str} {k : Nat} {c : Ct} {t : TS'}
/-- what a def's body runs in -/
abbrev BX (P : Program) (w : World) (K : PySem.W.Frag) (mg : Str → Option Value) (base : Heap) (N : List Str) (qual : Str) (scope : Scope) (f : Addr) (cdv : Value) (A : Around) (outer : List Env) (s : Shared) (H : Hp) (E : XK) : Cx := (cxOf CX0 P w K mg base N qual scope f cdv A outer s H E).nox
theorem fnOkD (F : FunD K x qual params body scope dvs kws f fd) (S : FnScope N ps scope) (len : ∀ ds L Φ, c ds L Φ → ds.length = ps.length)
    (der : ∀ (cdv : Value) (A : Around) (outer : List Env) (s : Shared) (H : Hp) (E : XK), Room k (A.deeper (envOfC qual scope s.heap.objs.size f cdv)) → PSs' (BX P w K mg base N qual scope f cdv A outer s H E) body t)
    (rd : ∀ ds L Φ, c ds L Φ → t (endD Φ) (startD N.length ds) L) : FnOk P w K mg base CX0 (k + 1) f fd ps (liftC K c) := by
  refine F.ok S (fun vs H Q E ⟨ds, L, Φ, r, _, h, _⟩ => by rw [← r.length]; exact len ds L Φ h) fun cdv A outer s H vs Q E hr ⟨ds, L, Φ, r, l, h, q⟩ => ⟨_, PSs.nox (der cdv A outer s H E hr), _, L, endD Φ, sr_start r, l, rd ds L Φ h, ?_, ?_, ?_, ?_⟩
  · rintro σd L2 σ H2 ⟨L3, c3, h3⟩ t2 s2 l2
    exact q _ _ _ _ h3 t2 .non (l2.cov c3)
  · rintro d L2 v H2 ⟨L3, c3, h3⟩ t2 r2 l2
    exact q _ _ _ _ h3 t2 r2 (l2.cov c3)
  · intro _ _ _ _ h
    exact (show False from h).elim
  · intro _ _ _ _ h
    exact (show False from h).elim
end
end DL

namespace DL
open PySem PySem.Spec PyProof.Rows L2
/-! ### built-ins by values -/
abbrev FA := List D → LL → DK → Prop
def CD (K : PySem.W.Frag) (f : FA) (r : List V → Hp → VK → Prop) : Prop := ∀ (ds : List D) (vs : List V) (L : LL) (H : Hp) (Φ : DK) (Q : VK), DRs K H ds vs → HL K H L → f ds L Φ → Kont K H Φ Q → r vs H Q
def tCB' (f : FA) (t : TA') : TE' := fun σ L Φ => t σ L fun ds L1 => f ds L1 Φ
section
variable {X : Cx} {K : PySem.W.Frag} {pos : Pos} {e o : Expr} {es : List Expr} {te to ta tb : TE'} {t : TA'} {x : Str} {f : FA} {r : List V → Hp → VK → Prop} {id T : String}
theorem lift_cb (cd : CD X.K f r) {σ : L2.St} {H : Hp} {Q : VK} (h : liftE X.K (tCB' f t) σ H Q) : tCB r (liftA X.K t) σ H Q := by
  obtain ⟨σd, L, Φ, hs, hl, ht, k⟩ := h
  exact ⟨σd, L, _, hs, hl, ht, fun ds L1 vs H1 h1 t1 r1 l1 => cd _ _ _ _ _ _ r1 l1 h1 (k.mono t1)⟩
theorem pe_callB' {p : Pos} (cd : CD X.K f r) (hc : CallR X (.builtin id) r) (hg : Gl X x) (hm : X.mg x = none) (hv : bootBuiltins x = some (.builtin id)) (ha : PA' X (e :: es) t) (hn : x ≠ "__name__" := by decide) (hdb : (x == ("__debug__" : Str)) = false := by decide)
    (he : starEach (e :: es) X.env = (false, eval e X.env) :: starEach es X.env := by rfl) (hpl : (backTo pos (starEach es X.env)).any (·.1) = false := by rfl) : PE' X (.Call (.Name x p) (e :: es) [] pos) (tCB' f t) :=
  lE (pe_callB hc hg hm hv ha hn hdb he hpl) fun _ _ _ h => lift_cb cd h
theorem pe_callTy' {p : Pos} (cd : CD X.K f r) (hc : CallR X (.type T) r) (hg : Gl X x) (hm : X.mg x = none) (hv : bootBuiltins x = some (.type T)) (ha : PA' X (e :: es) t) (hn : x ≠ "__name__" := by decide) (hdb : (x == ("__debug__" : Str)) = false := by decide)
    (he : starEach (e :: es) X.env = (false, eval e X.env) :: starEach es X.env := by rfl) (hpl : (backTo pos (starEach es X.env)).any (·.1) = false := by rfl) : PE' X (.Call (.Name x p) (e :: es) [] pos) (tCB' f t) :=
  lE (pe_callTy hc hg hm hv ha hn hdb he hpl) fun _ _ _ h => lift_cb cd h
/-- len -/
def lenD (d : D) (L : LL) (k : Nat → Prop) : Prop := match d with
  | .ref a => ∃ ds, HasL L a ds ∧ k ds.length
  | .tup ds => k ds.length
  | .str x => x.length ≤ 1000000 ∧ k x.length
  | _ => False
def fLen : FA := fun ds L Φ => one ds fun d => lenD d L fun n => Φ (.int n) L
theorem cd_len : CD K fLen (fun xs H Q => ∃ x n, xs = [x] ∧ LenV K x H n ∧ Q (.int n) H) := fun ds vs L H Φ Q r l h k => by
  obtain ⟨d, v, rfl, rfl, rd, q⟩ := one_dr r h
  cases rd with
  | ref =>
    obtain ⟨xs, hh, q⟩ := (show ∃ xs, _ from q)
    obtain ⟨us, e, ru⟩ := l.seq hh
    exact ⟨_, us.length, rfl, .inl ⟨us, e, rfl⟩, by rw [← ru.length]; exact k _ _ _ _ q .refl .int l⟩
  | tup s tt => exact ⟨_, _, rfl, .inr ⟨_, s, rfl⟩, by rw [← tt.length]; exact k _ _ _ _ q .refl .int l⟩
  | str =>
    obtain ⟨z, q⟩ := (show _ ∧ _ from q)
    exact ⟨_, _, rfl, ⟨szl z, rfl⟩, k _ _ _ _ q .refl .int l⟩
  | _ => exact (show False from q).elim
/-- list(x), x a list or tuple -/
def fList : FA := fun ds L Φ => one ds fun d => starD d L fun xs => ∀ p, Φ (.ref p) ((p, .lst xs) :: L)
theorem cd_list : CD K fList (fun xs H Q => ∃ p ys, xs = [.ref p] ∧ (SqL K H p ys ∨ SqT K H p ys) ∧ ∀ l, H l = none → Q (.ref l) (upd H l (.lst ys))) := fun ds vs L H Φ Q r l h k => by
  obtain ⟨d, v, rfl, rfl, rd, q⟩ := one_dr r h
  cases rd with
  | ref =>
    obtain ⟨xs, hh, q⟩ := (show ∃ xs, _ from q)
    obtain ⟨us, e, ru⟩ := l.seq hh
    exact ⟨_, us, rfl, .inl e, fun p hp => k _ _ _ _ (q p) (TK.new hp) .ref (l.newl hp ru)⟩
  | tup s tt => exact ⟨_, _, rfl, .inr s, fun p hp => k _ _ _ _ ((show ∀ p, _ from q) p) (TK.new hp) .ref (l.newl hp tt)⟩
  | _ => exact (show False from q).elim
/-- tuple(x) -/
def fTuple : FA := fun ds L Φ => one ds fun d => starD d L fun xs => Φ (.tup xs) L
theorem cd_tuple : CD K fTuple (fun xs H Q => ∃ p ys, xs = [.ref p] ∧ ((SqL K H p ys ∧ ∀ l, H l = none → Q (.ref l) (upd H l (.tup ys))) ∨ (SqT K H p ys ∧ Q (.ref p) H))) := fun ds vs L H Φ Q r l h k => by
  obtain ⟨d, v, rfl, rfl, rd, q⟩ := one_dr r h
  cases rd with
  | ref =>
    obtain ⟨xs, hh, q⟩ := (show ∃ xs, _ from q)
    obtain ⟨us, e, ru⟩ := l.seq hh
    exact ⟨_, us, rfl, .inl ⟨e, fun p hp => k _ _ _ _ q (TK.new hp) (dr_newt hp ru) (l.mono_new hp)⟩⟩
  | tup s tt => exact ⟨_, _, rfl, .inr ⟨s, k _ _ _ _ q .refl (.tup s tt) l⟩⟩
  | _ => exact (show False from q).elim
/-- list(range(a, b)) -/
def tLstRg1' (t : TE') : TE' := fun σ L Φ => t σ L fun d L1 => intD d fun n => (n ≤ 1000000 ∧ -1000000 ≤ n) ∧ ∀ p, Φ (.ref p) ((p, .lst (rgD 0 n)) :: L1)
def tLstRg2' (t u : TE') : TE' := fun σ L Φ => t σ L fun d L1 => intD d fun i => u σ L1 fun d2 L2 => intD d2 fun j => (i ≤ 1000000 ∧ 0 ≤ i ∧ j ≤ 1000000 ∧ -1000000 ≤ j) ∧ ∀ p, Φ (.ref p) ((p, .lst (rgD i j)) :: L2)
theorem drs_rg {H : Hp} (i j : Int) : DRs K H (rgD i j) (rgV i j) := by
  unfold rgD rgV
  generalize List.range (j - i).toNat = l
  induction l with
  | nil => exact .nil
  | cons a r ih => exact .cons .int ih
variable {a b : Expr}
theorem pe_listRg1' {p p2 pos2 : Pos} (hc : X.calm = true) (hg : Gl X "list") (hm : X.mg "list" = none) (hg2 : Gl X "range") (hm2 : X.mg "range" = none) (ha : PE' X a ta)
    (na : starEach [a] X.env = (false, eval a X.env) :: starEach [] X.env := by rfl)
    (na2 : starEach [.Call (.Name "range" p2) [a] [] pos2] X.env = (false, eval (.Call (.Name "range" p2) [a] [] pos2) X.env) :: starEach [] X.env := by rfl) : PE' X (.Call (.Name "list" p) [.Call (.Name "range" p2) [a] [] pos2] [] pos) (tLstRg1' ta) :=
  lE (pe_listRg hc hg hm (prg_1 hg2 hm2 ha na) na2) fun σ H Q ⟨σd, L, Φ, hs, hl, ht, k⟩ => ⟨σd, L, _, hs, hl, ht, fun d L1 v H1 h1 t1 r1 l1 => by
    obtain ⟨n, rfl, rfl, ⟨z1, z2⟩, q⟩ := int_dr r1 h1
    refine ⟨n, rfl, ⟨by omega, by omega, by omega, by omega, by omega⟩, fun p hp => k _ _ _ _ (q p) (t1.trans (TK.new hp)) .ref (l1.newl hp (drs_rg 0 n))⟩⟩
theorem pe_listRg2' {p p2 pos2 : Pos} (hc : X.calm = true) (hg : Gl X "list") (hm : X.mg "list" = none) (hg2 : Gl X "range") (hm2 : X.mg "range" = none) (ha : PE' X a ta) (hb : PE' X b tb)
    (na : starEach [a, b] X.env = (false, eval a X.env) :: starEach [b] X.env := by rfl) (nb : starEach [b] X.env = (false, eval b X.env) :: starEach [] X.env := by rfl)
    (hp : (backTo pos2 (starEach [b] X.env)).any (·.1) = false := by rfl)
    (na2 : starEach [.Call (.Name "range" p2) [a, b] [] pos2] X.env = (false, eval (.Call (.Name "range" p2) [a, b] [] pos2) X.env) :: starEach [] X.env := by rfl) : PE' X (.Call (.Name "list" p) [.Call (.Name "range" p2) [a, b] [] pos2] [] pos) (tLstRg2' ta tb) :=
  lE (pe_listRg hc hg hm (prg_2 hg2 hm2 ha hb na nb hp) na2) fun σ H Q ⟨σd, L, Φ, hs, hl, ht, k⟩ => ⟨σd, L, _, hs, hl, ht, fun d L1 v H1 h1 t1 r1 l1 => by
    obtain ⟨i, rfl, rfl, q⟩ := int_dr r1 h1
    refine ⟨σd, L1, _, hs.mono t1, l1, q, fun d2 L2 v2 H2 h2 t2 r2 l2 => ?_⟩
    obtain ⟨j, rfl, rfl, ⟨z1, z2, z3, z4⟩, q⟩ := int_dr r2 h2
    refine ⟨i, j, rfl, rfl, ⟨by omega, by omega, by omega, by omega, by omega⟩, fun p hp => k _ _ _ _ (q p) ((t1.trans t2).trans (TK.new hp)) .ref (l2.newl hp (drs_rg i j))⟩⟩
/-- sum, max, min of a list of ints; of two ints -/
def intsL (d : D) (L : LL) (k : List Int → Prop) : Prop := match d with
  | .ref a => ∃ ds, HasL L a ds ∧ ∃ ns : List Int, ds = ns.map .int ∧ k ns
  | _ => False
theorem intsL_dr {H : Hp} {d : D} {v : V} {L : LL} {k : List Int → Prop} (r : DR K H d v) (l : HL K H L) (h : intsL d L k) : ∃ a ns, v = .ref a ∧ SqL K H a (ns.map V.int) ∧ k ns := by
  cases r with
  | ref =>
    obtain ⟨ds, hh, ns, rfl, q⟩ := (show ∃ ds, _ from h)
    obtain ⟨us, e, ru⟩ := l.seq hh
    have := ru.ints'
    subst this
    exact ⟨_, ns, rfl, e, q⟩
  | _ => exact (show False from h).elim
def fSum : FA := fun ds L Φ => one ds fun d => intsL d L fun ns => Φ (.int ns.sum) L
theorem cd_sum : CD K fSum (rSum K) := fun ds vs L H Φ Q r l h k => by
  obtain ⟨d, v, rfl, rfl, rd, q⟩ := one_dr r h
  obtain ⟨a, ns, rfl, e, q⟩ := intsL_dr rd l q
  exact ⟨a, ns, rfl, e, k _ _ _ _ q .refl .int l⟩
def fMaxL : FA := fun ds L Φ => one ds fun d => intsL d L fun ns => 0 < ns.length ∧ ∀ m, m ∈ ns → (∀ y, y ∈ ns → y ≤ m) → Φ (.int m) L
theorem cd_maxL : CD K fMaxL (rMax K) := fun ds vs L H Φ Q r l h k => by
  obtain ⟨d, v, rfl, rfl, rd, q⟩ := one_dr r h
  obtain ⟨a, ns, rfl, e, z, q⟩ := intsL_dr rd l q
  exact ⟨a, ns, rfl, e, z, fun m h1 h2 => k _ _ _ _ (q m h1 h2) .refl .int l⟩
def fMinL : FA := fun ds L Φ => one ds fun d => intsL d L fun ns => 0 < ns.length ∧ ∀ m, m ∈ ns → (∀ y, y ∈ ns → m ≤ y) → Φ (.int m) L
theorem cd_minL : CD K fMinL (rMin K) := fun ds vs L H Φ Q r l h k => by
  obtain ⟨d, v, rfl, rfl, rd, q⟩ := one_dr r h
  obtain ⟨a, ns, rfl, e, z, q⟩ := intsL_dr rd l q
  exact ⟨a, ns, rfl, e, z, fun m h1 h2 => k _ _ _ _ (q m h1 h2) .refl .int l⟩
def fMax2 : FA := fun ds L Φ => two ds fun d e => intD d fun i => intD e fun j => Φ (.int (if j > i then j else i)) L
theorem cd_max2 : CD K fMax2 (fun xs H Q => ∃ i j, xs = [.int i, .int j] ∧ Q (.int (if j > i then j else i)) H) := fun ds vs L H Φ Q r l h k => by
  obtain ⟨d, e, v, u, rfl, rfl, rd, re, q⟩ := two_dr r h
  obtain ⟨i, rfl, rfl, q⟩ := int_dr rd q
  obtain ⟨j, rfl, rfl, q⟩ := int_dr re q
  exact ⟨i, j, rfl, k _ _ _ _ q .refl .int l⟩
def fMin2 : FA := fun ds L Φ => two ds fun d e => intD d fun i => intD e fun j => Φ (.int (if j < i then j else i)) L
theorem cd_min2 : CD K fMin2 (fun xs H Q => ∃ i j, xs = [.int i, .int j] ∧ Q (.int (if j < i then j else i)) H) := fun ds vs L H Φ Q r l h k => by
  obtain ⟨d, e, v, u, rfl, rfl, rd, re, q⟩ := two_dr r h
  obtain ⟨i, rfl, rfl, q⟩ := int_dr rd q
  obtain ⟨j, rfl, rfl, q⟩ := int_dr re q
  exact ⟨i, j, rfl, k _ _ _ _ q .refl .int l⟩
def fAbs : FA := fun ds L Φ => one ds fun d => intD d fun i => Φ (.int (if i < 0 then -i else i)) L
theorem cd_abs : CD K fAbs (fun xs H Q => ∃ i, xs = [.int i] ∧ Q (.int (if i < 0 then -i else i)) H) := fun ds vs L H Φ Q r l h k => by
  obtain ⟨d, v, rfl, rfl, rd, q⟩ := one_dr r h
  obtain ⟨i, rfl, rfl, q⟩ := int_dr rd q
  exact ⟨i, rfl, k _ _ _ _ q .refl .int l⟩
def fInt : FA := fun ds L Φ => one ds fun d => match d with
  | .int i => Φ (.int i) L
  | .bl b => Φ (.int (if b then 1 else 0)) L
  | _ => False
theorem cd_int : CD K fInt (fun xs H Q => (∃ i, xs = [.int i] ∧ Q (.int i) H) ∨ ∃ k, xs = [.bl k] ∧ Q (.int (if k then 1 else 0)) H) := fun ds vs L H Φ Q r l h k => by
  obtain ⟨d, v, rfl, rfl, rd, q⟩ := one_dr r h
  cases rd with
  | int => exact .inl ⟨_, rfl, k _ _ _ _ q .refl .int l⟩
  | bl => exact .inr ⟨_, rfl, k _ _ _ _ q .refl .int l⟩
  | _ => exact (show False from q).elim
/-! isinstance -/
inductive Tn where
  | nn | bl | it | st | tp | ls | dc
def Tn.name : Tn → String
  | .nn => "NoneType" | .bl => "bool" | .it => "int" | .st => "str" | .tp => "tuple" | .ls => "list" | .dc => "dict"
def Tn.is : Tn → Tn → Bool
  | .bl, .bl => true | .bl, .it => true | .it, .it => true | .st, .st => true | .tp, .tp => true | .ls, .ls => true | .dc, .dc => true | .nn, .nn => true | _, _ => false
theorem kit_tn {K : PySem.W.Frag} : ∀ a b : Tn, PySem.W.kitOne K (.type a.name) (.type b.name) = some (a.is b) := fun a b => by
  cases a <;> cases b <;> exact kit_ty (by decide +kernel)
def tyD (d : D) (L : LL) (k : Tn → Prop) : Prop := match d with
  | .non => k .nn
  | .bl _ => k .bl
  | .int _ => k .it
  | .str _ => k .st
  | .tup _ => k .tp
  | .ref a => ∃ o, Has L a o ∧ (match o with
    | .lst _ => k .ls
    | .ro _ => k .ls
    | .dk _ => k .dc
    | .dt _ => k .dc
    | .ins _ _ => False)
  | .ty _ => False
theorem tyD_x {H : Hp} {d : D} {v : V} {L : LL} {k : Tn → Prop} (r : DR K H d v) (l : HL K H L) (h : tyD d L k) : ∃ t : Tn, TyX K H v (.type t.name) ∧ k t := by
  cases r with
  | non => exact ⟨.nn, .base .non, h⟩
  | bl => exact ⟨.bl, .base (.bl _), h⟩
  | int => exact ⟨.it, .base (.int _), h⟩
  | str => exact ⟨.st, .base (.str _), h⟩
  | tup s _ =>
    refine ⟨.tp, ?_, h⟩
    rcases s with (s | ⟨ob, s⟩) | ⟨ob, its, n, hk, hc, _⟩
    · exact .base (.tup s)
    · exact .fTuple s
    · exact .kTuple hk hc
  | ref =>
    obtain ⟨ob, hh, q⟩ := (show ∃ ob, _ from h)
    cases ob with
    | lst ds =>
      obtain ⟨vs, e, _⟩ := l.has hh
      exact ⟨.ls, .base (.lst e), q⟩
    | ro ds =>
      obtain ⟨vs, e, _⟩ := l.has hh
      rcases e with ⟨ob, e⟩ | ⟨ob, its, n, hk, hc, _⟩
      · exact ⟨.ls, .base (.frz e), q⟩
      · exact ⟨.ls, .kList hk hc, q⟩
    | dk kvs =>
      obtain ⟨gs, e, _⟩ := l.has hh
      exact ⟨.dc, .base (.dK e), q⟩
    | dt kvs =>
      obtain ⟨gs, e, _⟩ := l.has hh
      exact ⟨.dc, .base (.dT e), q⟩
    | ins C fs => exact (show False from q).elim
  | ty => exact (show False from h).elim
def tIsi' (c : Tn) (t : TE') : TE' := fun σ L Φ => t σ L fun d L1 => tyD d L1 fun tn => Φ (.bl (tn.is c)) L1
theorem pe_isi' {T : Str} {p pT : Pos} {c : Tn} (hg : Gl X "isinstance") (hm : X.mg "isinstance" = none) (hgT : Gl X T) (hmT : X.mg T = none) (hvT : bootBuiltins T = some (.type c.name)) (ha : PE' X e te) (hnT : T ≠ "__name__" := by decide) (hdT : (T == ("__debug__" : Str)) = false := by decide)
    (he : starEach [e, .Name T pT] X.env = (false, eval e X.env) :: starEach [.Name T pT] X.env := by rfl) (hpl : (backTo pos (starEach [.Name T pT] X.env)).any (·.1) = false := by rfl) : PE' X (.Call (.Name "isinstance" p) [e, .Name T pT] [] pos) (tIsi' c te) :=
  lE (pe_callB call_isi hg hm boot_isinstance (pa_cons (show PE X e (liftE X.K te) from ha) (pa_cons (pe_bltn (v := .ty c.name) hgT hmT hvT rfl hnT hdT) pa_nil) he) (he := he) (hpl := hpl)) fun σ H Q ⟨σd, L, Φ, hs, hl, ht, k⟩ => ⟨σd, L, _, hs, hl, ht, fun d L1 v H1 h1 t1 r1 l1 => by
    obtain ⟨tn, hty, q⟩ := tyD_x r1 l1 h1
    exact ⟨v, _, _, _, tn.is c, rfl, .ty _, hty, kit_tn tn c, k _ _ _ _ q t1 .bl l1⟩⟩
def tIsi2' (c c2 : Tn) (t : TE') : TE' := fun σ L Φ => t σ L fun d L1 => tyD d L1 fun tn => Φ (.bl (tn.is c || tn.is c2)) L1
theorem pe_isi2' {T T2 : Str} {p pT pT2 p3 : Pos} {x1} {c c2 : Tn} (hg : Gl X "isinstance") (hm : X.mg "isinstance" = none) (hgT : Gl X T) (hmT : X.mg T = none) (hvT : bootBuiltins T = some (.type c.name)) (hgT2 : Gl X T2) (hmT2 : X.mg T2 = none) (hvT2 : bootBuiltins T2 = some (.type c2.name)) (ha : PE' X e te)
    (hnT : T ≠ "__name__" := by decide) (hdT : (T == ("__debug__" : Str)) = false := by decide) (hnT2 : T2 ≠ "__name__" := by decide) (hdT2 : (T2 == ("__debug__" : Str)) = false := by decide)
    (he : starEach [e, .Tuple [.Name T pT, .Name T2 pT2] x1 p3] X.env = (false, eval e X.env) :: starEach [.Tuple [.Name T pT, .Name T2 pT2] x1 p3] X.env := by rfl) (hpl : (backTo pos (starEach [.Tuple [.Name T pT, .Name T2 pT2] x1 p3] X.env)).any (·.1) = false := by rfl) :
    PE' X (.Call (.Name "isinstance" p) [e, .Tuple [.Name T pT, .Name T2 pT2] x1 p3] [] pos) (tIsi2' c c2 te) :=
  lE (pe_callB call_isiT hg hm boot_isinstance (pa_cons (show PE X e (liftE X.K te) from ha) (pa_cons (pe_tup (pa_cons (pe_bltn (v := .ty c.name) hgT hmT hvT rfl hnT hdT) (pa_cons (pe_bltn (v := .ty c2.name) hgT2 hmT2 hvT2 rfl hnT2 hdT2) pa_nil))) pa_nil) he) (he := he) (hpl := hpl)) fun σ H Q ⟨σd, L, Φ, hs, hl, ht, k⟩ => ⟨σd, L, _, hs, hl, ht, fun d L1 v H1 h1 t1 r1 l1 => by
    refine ⟨(by show 2 ≤ sizeLine; decide), fun p hp => ?_⟩
    obtain ⟨tn, hty, q⟩ := tyD_x (r1.mono (TK.new hp)) (l1.mono_new hp) h1
    refine ⟨v, p, _, _, [.type c.name, .type c2.name], tn.is c || tn.is c2, rfl, upd_same, .cons (.ty _) (.cons (.ty _) .nil), hty, ?_, k _ _ _ _ q (t1.trans (TK.new hp)) .bl (l1.mono_new hp)⟩
    refine kitAny_cons (kit_tn tn c) (fun hb => ?_) fun hb => by rw [hb]; rfl
    rw [hb]
    exact kitAny_cons (kit_tn tn c2) (fun hb2 => by rw [hb2]; rfl) fun hb2 => by rw [hb2]; rfl⟩
/-! ### methods of lists -/
abbrev FM := D → List D → LL → DK → Prop
def MD (K : PySem.W.Frag) (f : FM) (r : V → List V → Hp → VK → Prop) : Prop := ∀ (d : D) (ds : List D) (x : V) (vs : List V) (L : LL) (H : Hp) (Φ : DK) (Q : VK), DR K H d x → DRs K H ds vs → HL K H L → f d ds L Φ → Kont K H Φ Q → r x vs H Q
/-- the receiver is a list, now -/
def isL (d : D) (L : LL) (k : Prop) : Prop := match d with
  | .ref a => ∃ ds, HasL L a ds ∧ k
  | _ => False
theorem isL_dr {H : Hp} {d : D} {v : V} {L : LL} {k : Prop} (r : DR K H d v) (l : HL K H L) (h : isL d L k) : tyV K "list" v H ∧ k := by
  cases r with
  | ref =>
    obtain ⟨ds, hh, q⟩ := (show ∃ ds, _ from h)
    obtain ⟨us, e, ru⟩ := l.seq hh
    exact ⟨.inl ⟨rfl, us, e⟩, q⟩
  | _ => exact (show False from h).elim
def tLM' (f : FM) (to : TE') (t : TA') : TE' := fun σ L Φ => to σ L fun d L1 => isL d L1 (t σ L1 fun ds L2 => f d ds L2 Φ)
def tLM0' (f : FM) (to : TE') : TE' := fun σ L Φ => to σ L fun d L1 => isL d L1 (f d [] L1 Φ)
variable {fm : FM} {rm : V → List V → Hp → VK → Prop} {name : Str} {apos : Pos}
theorem pe_lm' (md : MD X.K fm rm) (slot : Slot "list" name id) (hty : typeOf (.builtin id) = pure (.type "method_descriptor")) (hm : MtR X id rm) (ho : PE' X o to) (ha : PA' X (e :: es) t)
    (hbase : attributeBase o name X.env (eval o X.env) = eval o X.env := by rfl)
    (hfew : ((backTo pos (starEach (e :: es) X.env)).all (fun x => !x.1) && (backToKw pos (keywordEach [] X.env)).all (fun x => x.1.isSome)
      && decide ((e :: es).length + ([] : List Keyword).length + (if ([] : List Keyword).isEmpty then 0 else 1) < 30)) = true := by rfl)
    (hline : (apos.endLine == pos.line) = true := by rfl) (hs : starEach (e :: es) X.env = (false, eval e X.env) :: starEach es X.env := by rfl) (hplain : (backTo pos (starEach es X.env)).any (·.1) = false := by rfl) :
    PE' X (.Call (.Attribute o name apos) (e :: es) [] pos) (tLM' fm to t) :=
  lE (pe_bm PySem.F.plainAttrs_list slot hty hm ho ha hbase hfew hline hs hplain) fun σ H Q ⟨σd, L, Φ, hs, hl, ht, k⟩ => ⟨σd, L, _, hs, hl, ht, fun d L1 v H1 h1 t1 r1 l1 => by
    obtain ⟨ty, q⟩ := isL_dr r1 l1 h1
    exact ⟨ty, σd, L1, _, hs.mono t1, l1, q, fun ds L2 vs H2 h2 t2 r2 l2 => md _ _ _ _ _ _ _ _ (r1.mono t2) r2 l2 h2 (k.mono (t1.trans t2))⟩⟩
theorem pe_lm0' (md : MD X.K fm rm) (slot : Slot "list" name id) (hty : typeOf (.builtin id) = pure (.type "method_descriptor")) (hm : MtR X id rm) (ho : PE' X o to)
    (hbase : attributeBase o name X.env (eval o X.env) = eval o X.env := by rfl) (hline : (apos.endLine == pos.line) = true := by rfl) : PE' X (.Call (.Attribute o name apos) [] [] pos) (tLM0' fm to) :=
  lE (pe_bm0 PySem.F.plainAttrs_list slot hty hm ho hbase hline) fun σ H Q ⟨σd, L, Φ, hs, hl, ht, k⟩ => ⟨σd, L, _, hs, hl, ht, fun d L1 v H1 h1 t1 r1 l1 => by
    obtain ⟨ty, q⟩ := isL_dr r1 l1 h1
    exact ⟨ty, md _ _ _ _ _ _ _ _ r1 .nil l1 q (k.mono t1)⟩⟩
def fAppend : FM := fun d ds L Φ => match d with
  | .ref l => one ds fun y => ∃ xs L', Chg L l (.lst xs) (.lst (xs ++ [y])) L' ∧ xs.length ≤ 1000000 ∧ Φ .non L'
  | _ => False
theorem md_append : MD K fAppend rAppend := fun d ds x vs L H Φ Q r rs l h k => by
  cases r with
  | ref =>
    obtain ⟨y, v, rfl, rfl, ry, xs, L', c, z, q⟩ := one_dr rs h
    obtain ⟨us, e, ru⟩ := l.lst c.has
    obtain ⟨t2, l2⟩ := l.chgl c e (ru.append (.cons ry .nil))
    exact ⟨_, us, v, rfl, rfl, e, by rw [← ru.length]; exact szl' z, k _ _ _ _ q t2 .non l2⟩
  | _ => exact (show False from h).elim
def fExtend : FM := fun d ds L Φ => match d with
  | .ref l => one ds fun y => match y with
    | .ref b => ∃ zs, Has L b (.lst zs) ∧ ∃ xs L', Chg L l (.lst xs) (.lst (xs ++ zs)) L' ∧ xs.length + zs.length ≤ 1000000 ∧ Φ .non L'
    | _ => False
  | _ => False
theorem md_extend : MD K fExtend rExtend := fun d ds x vs L H Φ Q r rs l h k => by
  cases r with
  | ref =>
    obtain ⟨y, v, rfl, rfl, ry, q⟩ := one_dr rs h
    cases ry with
    | ref =>
      obtain ⟨zs, hb, xs, L', c, z, q⟩ := (show ∃ zs, _ from q)
      obtain ⟨us, e, ru⟩ := l.lst c.has
      obtain ⟨ws, e2, rw⟩ := l.lst hb
      obtain ⟨t2, l2⟩ := l.chgl c e (ru.append rw)
      exact ⟨_, _, us, ws, rfl, rfl, e, e2, by rw [← ru.length, ← rw.length]; exact szl z, k _ _ _ _ q t2 .non l2⟩
    | _ => exact (show False from q).elim
  | _ => exact (show False from h).elim
def fPop : FM := fun d ds L Φ => match d with
  | .ref l => ds = [] ∧ ∃ xs L', Chg L l (.lst xs) (.lst xs.dropLast) L' ∧ ∃ y, xs[xs.length - 1]? = some y ∧ Φ y L'
  | _ => False
theorem DRs.dropLast {H : Hp} : ∀ {ds : List D} {vs : List V}, DRs K H ds vs → DRs K H ds.dropLast vs.dropLast
  | _, _, .nil => .nil
  | _, _, .cons _ .nil => .nil
  | _, _, .cons a (.cons b r) => .cons a (DRs.dropLast (.cons b r))
theorem md_pop : MD K fPop rPop := fun d ds x vs L H Φ Q r rs l h k => by
  cases r with
  | ref =>
    obtain ⟨rfl, xs, L', c, y, hy, q⟩ := (show ds = [] ∧ _ from h)
    cases rs
    obtain ⟨us, e, ru⟩ := l.lst c.has
    obtain ⟨v, hv, rv⟩ := ru.get hy
    obtain ⟨t2, l2⟩ := l.chgl c e ru.dropLast
    exact ⟨_, us, v, rfl, rfl, e, by rw [← ru.length]; exact hv, k _ _ _ _ q t2 (rv.mono t2) l2⟩
  | _ => exact (show False from h).elim
def fReverse : FM := fun d ds L Φ => match d with
  | .ref l => ∃ xs L', Chg L l (.lst xs) (.lst xs.reverse) L' ∧ ds = [] ∧ Φ .non L'
  | _ => False
theorem md_reverse : MD K fReverse rReverse := fun d ds x vs L H Φ Q r rs l h k => by
  cases r with
  | ref =>
    obtain ⟨xs, L', c, rfl, q⟩ := (show ∃ xs, _ from h)
    cases rs
    obtain ⟨us, e, ru⟩ := l.lst c.has
    obtain ⟨t2, l2⟩ := l.chgl c e ru.reverse
    exact ⟨_, us, rfl, rfl, e, k _ _ _ _ q t2 .non l2⟩
  | _ => exact (show False from h).elim
end
end DL

namespace DL
open PySem PySem.Spec PyProof.Rows L2
/-! ### list comprehensions -/
def wipeD (σ : Sl) : List Nat → Sl
  | [] => σ
  | v :: vs => (wipeD σ vs).set v none
theorem SR.clear {K : PySem.W.Frag} {H : Hp} : ∀ {σd : Sl} {σ : L2.St} (i : Nat) (x : Option V), SR K H σd σ → SR K H (σd.set i none) (σ.set i x)
  | _, _, _, _, .nil => .nil
  | _, _, 0, _, .no q => .no q
  | _, _, 0, _, .yes _ q => .no q
  | _, _, i + 1, x, .no q => .no (SR.clear i x q)
  | _, _, i + 1, x, .yes a q => .yes a (SR.clear i x q)
theorem SR.wipe {K : PySem.W.Frag} {H : Hp} {σd : Sl} {σ : L2.St} (r : SR K H σd σ) : ∀ vs : List Nat, SR K H (wipeD σd vs) (L2.wipe σ vs)
  | [] => r
  | v :: vs => SR.clear v none (SR.wipe r vs)
theorem wipe_set {σ : L2.St} {i : Nat} {x : Option V} : ∀ {vs : List Nat}, i ∈ vs → L2.wipe (σ.set i x) vs = L2.wipe σ vs
  | v :: vs, h => by
    show (L2.wipe (σ.set i x) vs).set v none = (L2.wipe σ vs).set v none
    by_cases hv : i ∈ vs
    · rw [wipe_set hv]
    · have e : v = i := by
        rcases List.mem_cons.mp h with e | h
        · exact e.symm
        · exact absurd h hv
      subst e
      have : ∀ ws : List Nat, v ∉ ws → L2.wipe (σ.set v x) ws = (L2.wipe σ ws).set v x := by
        intro ws
        induction ws with
        | nil => intro _; rfl
        | cons u ws ih =>
          intro hn
          have h1 : v ≠ u := fun e => hn (by rw [e]; exact List.mem_cons_self)
          show (L2.wipe (σ.set v x) ws).set u none = ((L2.wipe σ ws).set u none).set v x
          rw [ih fun z => hn (List.mem_cons_of_mem _ z), List.set_comm _ _ h1]
      rw [this vs hv, List.set_set]
theorem wipe_wipe (σ : L2.St) (vs : List Nat) : L2.wipe (L2.wipe σ vs) vs = L2.wipe σ vs := by
  have aux : ∀ (us : List Nat) (τ : L2.St), (∀ u ∈ us, ∀ y : Nat, (List.set τ u none)[y]? = (show List (Option V) from τ)[y]?) → L2.wipe τ us = τ := by
    intro us
    induction us with
    | nil => intro τ _; rfl
    | cons u us ih =>
      intro τ hh
      show (L2.wipe τ us).set u none = τ
      rw [ih τ fun v hv => hh v (List.mem_cons_of_mem _ hv)]
      exact List.ext_getElem? (hh u List.mem_cons_self)
  refine aux vs _ fun u hu y => ?_
  have key : ∀ (ws : List Nat), u ∈ ws → ∀ y : Nat, ((L2.wipe σ ws).set u none)[y]? = (L2.wipe σ ws)[y]? := by
    intro ws
    induction ws with
    | nil => intro h; cases h
    | cons v ws ih =>
      intro h y
      show ((((L2.wipe σ ws).set v none).set u none))[y]? = ((L2.wipe σ ws).set v none)[y]?
      by_cases e : u = v
      · subst e
        rw [List.set_set]
      · have hw : u ∈ ws := by
          rcases List.mem_cons.mp h with e' | h
          · exact absurd e' e
          · exact h
        have z : (L2.wipe σ ws).set u none = L2.wipe σ ws := List.ext_getElem? (ih hw)
        rw [List.set_comm _ _ (Ne.symm e), z]
  exact key vs hu y
/-- a target of a comprehension: it stores own names alone -/
def OwnT (K : PySem.W.Frag) (vs : List Nat) (g : TG) (g' : TG') : Prop := ∀ (v : V) (σ : L2.St) (H : Hp) (Q : L2.St → Hp → Prop) (d : D) (σd : Sl) (L : LL) (Q' : Sl → LL → Prop), DR K H d v → SR K H σd σ → HL K H L → g' d σd L Q' →
  (∀ σd' L' σ', Q' σd' L' → L2.wipe σ' vs = L2.wipe σ vs → SR K H σd' σ' → HL K H L' → Q σ' H) → g v σ H Q
def OwnTs (K : PySem.W.Frag) (vs : List Nat) (g : TGs) (g' : TGs') : Prop := ∀ (us : List V) (σ : L2.St) (H : Hp) (Q : L2.St → Hp → Prop) (ds : List D) (σd : Sl) (L : LL) (Q' : Sl → LL → Prop), DRs K H ds us → SR K H σd σ → HL K H L → g' ds σd L Q' →
  (∀ σd' L' σ', Q' σd' L' → L2.wipe σ' vs = L2.wipe σ vs → SR K H σd' σ' → HL K H L' → Q σ' H) → g us σ H Q
section
variable {K : PySem.W.Frag} {vs : List Nat}
theorem own_name {i : Nat} (hi : i ∈ vs) : OwnT K vs (gName i) (gName' i) := fun v σ H Q d σd L Q' r hs l h k => k _ _ _ h (wipe_set hi) (hs.set r i) l
theorem own_nil : OwnTs K vs gNil gNil' := fun us σ H Q ds σd L Q' r hs l h k => by
  cases r with
  | nil => exact ⟨rfl, k _ _ _ h rfl hs l⟩
  | cons _ _ => exact (show False from h).elim
theorem own_cons {g : TG} {g' : TG'} {u : TGs} {u' : TGs'} (h1 : OwnT K vs g g') (h2 : OwnTs K vs u u') : OwnTs K vs (gCons g u) (gCons' g' u') := fun us σ H Q ds σd L Q' r hs l h k => by
  cases r with
  | nil => exact (show False from h).elim
  | cons r1 r2 => exact ⟨_, _, rfl, h1 _ _ _ _ _ _ _ _ r1 hs l h fun σd1 L1 σ1 q1 w1 s1 l1 => h2 _ _ _ _ _ _ _ _ r2 s1 l1 q1 fun σd2 L2 σ2 q2 w2 s2 l2 => k _ _ _ q2 (w2.trans w1) s2 l2⟩
theorem own_tup {n : Nat} {u : TGs} {u' : TGs'} (h : OwnTs K vs u u') : OwnT K vs (gTup K n u) (gTup' n u') := fun v σ H Q d σd L Q' r hs l q k => by
  cases r with
  | tup s t => exact ⟨_, _, rfl, s, by rw [← t.length]; exact (show _ ∧ _ from q).1, h _ _ _ _ _ _ _ _ t hs l (show _ ∧ _ from q).2 k⟩
  | _ => exact (show False from q).elim
end
@[irreducible] def NxL (W : Nat → LL → Prop) (i : Nat) (L : LL) : Prop := ∃ L6, Cov L L6 ∧ W (i + 1) L6
theorem NxL.elim {W : Nat → LL → Prop} {i : Nat} {L : LL} (h : NxL W i L) : ∃ L6, Cov L L6 ∧ W (i + 1) L6 := by
  unfold NxL at h
  exact h
@[irreducible] def LcI (items : List D) (st : LL → Prop) (g : TG') (tt : TT') (te : TE') (vs : List Nat) (p : Addr) (σ : Sl) (L : LL) (Φ : DK) : Prop := ∃ W : Nat → LL → Prop, (∃ L1, Cov ((p, .lst []) :: L) L1 ∧ W 0 L1) ∧
  (∀ i L d, W i L → items[i]? = some d → st L ∧ g d (wipeD σ vs) L fun σ2 L2 => tt σ2 L2 (fun L3 => te σ2 L3 fun y L4 => ∃ acc L5, Chg L4 p (.lst acc) (.lst (acc ++ [y])) L5 ∧ acc.length ≤ 1000000 ∧ NxL W i L5) (fun L3 => NxL W i L3)) ∧
  (∀ L, W items.length L → st L ∧ Φ (.ref p) L)
def tLc' (w : TI') (g : TG') (tt : TT') (te : TE') (vs : List Nat) : TE' := fun σ L Φ => w σ L fun items st L1 => ∀ p, LcI items st g tt te vs p σ L1 Φ
abbrev PTs' (X : Cx) (ifs : List Expr) (t : TT') : Prop := PTs X ifs (liftT X.K t)
def tYes' : TT' := fun _ L T _ => T L
section
variable {X : Cx} {pos spos : Pos} {w : TI'} {g' : TG'} {g : TG} {tt : TT'} {te : TE'} {elt tg iter : Expr} {ifs : List Expr} {scope : Scope} {own : List (Str × Nat)}
theorem pts_nil' : PTs' X [] tYes' := ⟨fun pins s σ H Q I ⟨σd, L, T, F, hs, hl, ht, k⟩ => pts_nil.run pins s σ H Q I (k.1 L H ht .refl hl)⟩
theorem pts_one' {c : Expr} {t : TT'} (h : PT' X c t) : PTs' X [c] t := pts_one h
theorem lift_lc {σ : L2.St} {H : Hp} {Q : VK} (og : OwnT X.K (own.map (·.2)) g g') (h : liftE X.K (tLc' w g' tt te (own.map (·.2))) σ H Q) : tLc (liftI X.K w) g (liftT X.K tt) (liftE X.K te) (own.map (·.2)) σ H Q := by
  obtain ⟨σd, L, Φ, hs, hl, ht, k⟩ := h
  refine ⟨σd, L, _, hs, hl, ht, fun items st L1 J H1 h1 J1 t1 l1 p hp => ?_⟩
  have h1 := h1 p
  unfold LcI at h1
  obtain ⟨W, ⟨L2, c2, w0⟩, turn, done⟩ := h1
  have tn : TK X.K H1 (upd H1 p (.lst [])) := TK.new hp
  refine ⟨fun i m H' => m = items.length - i ∧ i ≤ items.length ∧ ∃ L', HL X.K H' L' ∧ W i L' ∧ TK X.K H1 H', ⟨items.length, by simp, Nat.zero_le _, L2, (l1.newl hp .nil).cov c2, w0, tn⟩, ?_⟩
  rintro i m H' ⟨rfl, hi, L', hl', w', tk⟩
  by_cases hlt : i < items.length
  · obtain ⟨d, hd⟩ : ∃ d, items[i]? = some d := ⟨items[i], List.getElem?_eq_getElem hlt⟩
    obtain ⟨hst, hg'⟩ := turn i L' d w' hd
    refine .inr ⟨J1.go i L' H' tk hl' hst hlt, fun H3 => ∃ L', HL X.K H3 L' ∧ W (i + 1) L' ∧ TK X.K H1 H3, fun H3 h => ⟨items.length - (i + 1), by omega, rfl, hlt, h⟩, fun x H2 hy => ?_⟩
    obtain ⟨t2, r2, l2⟩ := J1.yld i L' H' x H2 d tk hl' hst hd hy
    have tt2 : TK X.K H1 H2 := tk.trans t2
    refine og _ _ _ _ _ _ _ _ r2 ((hs.mono (t1.trans tt2)).wipe _) l2 hg' fun σd3 L3 σ3 q3 w3 s3 l3 => ⟨w3.trans ?_, σd3, L3, _, _, s3, l3, q3, fun L4 H4 q4 t4 l4 => ?_, fun L4 H4 q4 t4 l4 => ?_⟩
    · exact wipe_wipe σ _
    · refine iteT ?_
      refine ⟨σd3, L4, _, s3.mono t4, l4, q4, fun y L5 vy H5 q5 t5 r5 l5 => ?_⟩
      obtain ⟨acc, L6, c6, z, q6⟩ := q5
      obtain ⟨L7, c7, w7⟩ := q6.elim
      obtain ⟨us, e, ru⟩ := l5.lst c6.has
      obtain ⟨t6, l6⟩ := l5.chgl c6 e (ru.append (.cons r5 .nil))
      exact ⟨us, e, by rw [← ru.length]; exact szl' z, L7, l6.cov c7, w7, ((tt2.trans t4).trans t5).trans t6⟩
    · refine iteF ?_
      obtain ⟨L7, c7, w7⟩ := q4.elim
      exact ⟨L7, l4.cov c7, w7, tt2.trans t4⟩
  · have e : i = items.length := by omega
    subst e
    obtain ⟨hst, q⟩ := done L' w'
    exact .inl ⟨J1.stop L' H' tk hl' hst, k _ _ _ _ q (t1.trans tk) .ref hl'⟩
theorem pe_lc' (hc : X.calm = true) (hN : X.N.Nodup) (hi : PI' X tg iter w) (ok : BlkOk X.N X.env.scope scope own) (og : OwnT X.K (own.map (·.2)) g g')
    (hg : ∀ (s : Shared) (H : Hp) (C : Addr) (cl : List (Str × Addr)) (fp : List Addr), PG (X.blk s H scope (compEnvC scope cl C X.env) fp) tg g) (ht : ∀ (s : Shared) (H : Hp) (C : Addr) (cl : List (Str × Addr)) (fp : List Addr), PTs' (X.blk s H scope (compEnvC scope cl C X.env) fp) ifs tt)
    (he : ∀ (s : Shared) (H : Hp) (C : Addr) (cl : List (Str × Addr)) (fp : List Addr), PE' (X.blk s H scope (compEnvC scope cl C X.env) fp) elt te) (hs : ∀ x, foldedSetIterable iter X.env x = pure x := by intro _; rfl) :
    PE' X (.ListComp elt [⟨tg, iter, ifs, 0⟩] scope pos) (tLc' w g' tt te (own.map (·.2))) :=
  lE (pe_lc hc hN hi ok hg ht he hs) fun σ H Q h => lift_lc og h
theorem ps_setLc' {i : Nat} {y : Str} {py : Pos} (hc : X.calm = true) (hN : X.N.Nodup) (hi : PI' X tg iter w) (ok : BlkOk X.N X.env.scope scope own) (og : OwnT X.K (own.map (·.2)) g g')
    (hg : ∀ (s : Shared) (H : Hp) (C : Addr) (cl : List (Str × Addr)) (fp : List Addr), PG (X.blk s H scope (compEnvC scope cl C X.env) fp) tg g) (ht : ∀ (s : Shared) (H : Hp) (C : Addr) (cl : List (Str × Addr)) (fp : List Addr), PTs' (X.blk s H scope (compEnvC scope cl C X.env) fp) ifs tt)
    (he : ∀ (s : Shared) (H : Hp) (C : Addr) (cl : List (Str × Addr)) (fp : List Addr), PE' (X.blk s H scope (compEnvC scope cl C X.env) fp) elt te)
    (hy : X.N[i]? = some y := by rfl) (hyl : X.env.scope.names.lookup y = some .local := by rfl)
    (hsw : swapsWith (.ListComp elt [⟨tg, iter, ifs, 0⟩] scope pos) (some (.Name y py)) spos.line X.env = pure true := by exact sw_true rfl rfl rfl (by decide +kernel)) (hs : ∀ x, foldedSetIterable iter X.env x = pure x := by intro _; rfl) :
    PS' X (.Assign [.Name y py] (.ListComp elt [⟨tg, iter, ifs, 0⟩] scope pos) spos) (tAsg' (tLc' w g' tt te (own.map (·.2))) (gName' i)) :=
  lS (ps_setLc hc hN hy hyl hsw hi ok hg ht he hs) fun D σ H ⟨σd, L, D', hs, hl, ht, k⟩ => by
    have z : liftE X.K (tLc' w g' tt te (own.map (·.2))) σ H (fun v H1 => gName i v σ H1 D.nx) := ⟨σd, L, _, hs, hl, ht, fun d L1 v H1 h1 t1 r1 l1 => k.nx _ _ _ _ h1 t1 ((hs.mono t1).set r1 i) l1⟩
    exact lift_lc og z
end
end DL

namespace DL
open PySem PySem.Spec PyProof.Rows L2
/-! ### contracts by a small part of the heap -/
inductive Pull : LL → LL → LL → Prop
  | nil {L} : Pull L [] L
  | cons {L a o o' L1 F R} : Sel L a o' L1 → o' = o → Pull L1 F R → Pull L ((a, o) :: F) R
theorem Pull.cov {L F R : LL} (p : Pull L F R) : Cov L (F ++ R) := by
  induction p with
  | nil => exact .refl
  | cons s e _ ih => exact .take s e ih
abbrev Sc := List D → LL → LL → DK → Prop
inductive CtOf (S : Sc) (ds : List D) (L : LL) (Φ : DK) : Prop
  | mk (F R : LL) : Pull L F R → S ds F R Φ → CtOf S ds L Φ
theorem nonly_of {S : Sc} (h : ∀ ds F R Φ, S ds F R Φ → S ds F R fun d L' => d = .non ∧ Φ d L') : NonOnly (CtOf S) := fun ds L Φ ⟨F, R, p, s⟩ => ⟨F, R, p, h _ _ _ _ s⟩
section
variable {P : Program} {w : World} {K : PySem.W.Frag} {mg : Str → Option Value} {base : Heap} {x qual : Str} {params : Arguments} {body : List Stmt} {scope : Scope} {dvs : List V} {kws : List (Str × V)} {f : Addr} {fd : FuncData} {ps N : List Str} {k : Nat} {S : Sc} {t : TS'}
theorem fnOkS (F : FunD K x qual params body scope dvs kws f fd) (sc : FnScope N ps scope) (len : ∀ ds F R Φ, S ds F R Φ → ds.length = ps.length)
    (der : ∀ (cdv : Value) (A : Around) (outer : List Env) (s : Shared) (H : Hp) (E : XK), Room k (A.deeper (envOfC qual scope s.heap.objs.size f cdv)) → PSs' (BX P w K mg base N qual scope f cdv A outer s H E) body t)
    (rd : ∀ ds F R Φ, S ds F R Φ → t (endD Φ) (startD N.length ds) (F ++ R)) : FnOk P w K mg base CX0 (k + 1) f fd ps (liftC K (CtOf S)) := by
  refine F.ok sc (fun vs H Q E ⟨ds, L, Φ, r, _, ⟨F, R, p, s⟩, _⟩ => by rw [← r.length]; exact len ds F R Φ s) fun cdv A outer s H vs Q E hr ⟨ds, L, Φ, r, l, ⟨F, R, p, hs⟩, q⟩ => ⟨_, PSs.nox (der cdv A outer s H E hr), _, F ++ R, endD Φ, sr_start r, l.cov p.cov, rd ds F R Φ hs, ?_, ?_, ?_, ?_⟩
  · rintro σd L2 σ H2 ⟨L3, c3, h3⟩ t2 s2 l2
    exact q _ _ _ _ h3 t2 .non (l2.cov c3)
  · rintro d L2 v H2 ⟨L3, c3, h3⟩ t2 r2 l2
    exact q _ _ _ _ h3 t2 r2 (l2.cov c3)
  · intro _ _ _ _ h
    exact (show False from h).elim
  · intro _ _ _ _ h
    exact (show False from h).elim
end
/-! ### loops by an invariant over data -/
/-- the state is that of some x -/
def WI {α : Type} (S : α → Sl) (F : α → LL) (I : α → Prop) (μ : α → Nat) : Nat → Sl → LL → Prop := fun m σ L => ∃ x, σ = S x ∧ L = F x ∧ I x ∧ m = μ x
theorem WhileI.inv {α : Type} {c : TT'} {tb : TS'} {D : EndsD} {σ : Sl} {L : LL} (S : α → Sl) (F : α → LL) (I : α → Prop) (μ : α → Nat) (x0 : α) (h1 : Sub σ (S x0)) (h2 : Cov L (F x0)) (h3 : I x0)
    (step : ∀ x, I x → c (S x) (F x) (fun L1 => tb { D with nx := Nxt (WI S F I μ) (μ x), ct := Nxt (WI S F I μ) (μ x), bk := D.nx } (S x) L1) (fun L1 => D.nx (S x) L1)) : WhileI c tb D σ L := by
  unfold WhileI
  refine ⟨WI S F I μ, ⟨μ x0, S x0, F x0, h1, h2, x0, rfl, rfl, h3, rfl⟩, ?_⟩
  rintro m σ L ⟨x, rfl, rfl, hx, rfl⟩
  exact step x hx
theorem Nxt.mk {α : Type} {S : α → Sl} {F : α → LL} {I : α → Prop} {μ : α → Nat} {m : Nat} {σ : Sl} {L : LL} (y : α) (h1 : Sub σ (S y)) (h2 : Cov L (F y)) (h3 : I y) (h4 : μ y < m) : Nxt (WI S F I μ) m σ L := by
  unfold Nxt
  exact ⟨μ y, h4, S y, F y, h1, h2, y, rfl, rfl, h3, rfl⟩
def FI {α : Type} (S : Nat → α → Sl) (F : Nat → α → LL) (I : Nat → α → Prop) : Nat → Sl → LL → Prop := fun i σ L => ∃ x, σ = S i x ∧ L = F i x ∧ I i x
theorem ForI.inv {α : Type} {items : List D} {st : LL → Prop} {g : TG'} {tb : TS'} {D : EndsD} {σ : Sl} {L : LL} (S : Nat → α → Sl) (F : Nat → α → LL) (I : Nat → α → Prop) (x0 : α) (h1 : Sub σ (S 0 x0)) (h2 : Cov L (F 0 x0)) (h3 : I 0 x0)
    (step : ∀ i x d, items[i]? = some d → I i x → st (F i x) ∧ g d (S i x) (F i x) fun σ2 L2 => tb { D with nx := Nx1 (FI S F I) i, ct := Nx1 (FI S F I) i, bk := D.nx } σ2 L2)
    (done : ∀ x, I items.length x → st (F items.length x) ∧ D.nx (S items.length x) (F items.length x)) : ForI items st g tb D σ L := by
  unfold ForI
  refine ⟨FI S F I, ⟨_, _, h1, h2, x0, rfl, rfl, h3⟩, ?_, ?_⟩
  · rintro i σ L d ⟨x, rfl, rfl, hx⟩ hd
    exact step i x d hd hx
  · rintro σ L ⟨x, rfl, rfl, hx⟩
    exact done x hx
theorem Nx1.mk {α : Type} {S : Nat → α → Sl} {F : Nat → α → LL} {I : Nat → α → Prop} {i : Nat} {σ : Sl} {L : LL} (y : α) (h1 : Sub σ (S (i + 1) y)) (h2 : Cov L (F (i + 1) y)) (h3 : I (i + 1) y) : Nx1 (FI S F I) i σ L := by
  unfold Nx1
  exact ⟨_, _, h1, h2, y, rfl, rfl, h3⟩
def LI {α : Type} (F : Nat → α → LL) (I : Nat → α → Prop) : Nat → LL → Prop := fun i L => ∃ x, L = F i x ∧ I i x
theorem LcI.inv {α : Type} {items : List D} {st : LL → Prop} {g : TG'} {tt : TT'} {te : TE'} {vs : List Nat} {p : Addr} {σ : Sl} {L : LL} {Φ : DK} (F : Nat → α → LL) (I : Nat → α → Prop) (x0 : α) (h2 : Cov ((p, .lst []) :: L) (F 0 x0)) (h3 : I 0 x0)
    (step : ∀ i x d, items[i]? = some d → I i x → st (F i x) ∧ g d (wipeD σ vs) (F i x) fun σ2 L2 => tt σ2 L2 (fun L3 => te σ2 L3 fun y L4 => ∃ acc L5, Chg L4 p (.lst acc) (.lst (acc ++ [y])) L5 ∧ acc.length ≤ 1000000 ∧ NxL (LI F I) i L5) (fun L3 => NxL (LI F I) i L3))
    (done : ∀ x, I items.length x → st (F items.length x) ∧ Φ (.ref p) (F items.length x)) : LcI items st g tt te vs p σ L Φ := by
  unfold LcI
  refine ⟨LI F I, ⟨_, h2, x0, rfl, h3⟩, ?_, ?_⟩
  · rintro i L d ⟨x, rfl, hx⟩ hd
    exact step i x d hd hx
  · rintro L ⟨x, rfl, hx⟩
    exact done x hx
theorem NxL.mk {α : Type} {F : Nat → α → LL} {I : Nat → α → Prop} {i : Nat} {L : LL} (y : α) (h2 : Cov L (F (i + 1) y)) (h3 : I (i + 1) y) : NxL (LI F I) i L := by
  unfold NxL
  exact ⟨_, h2, y, rfl, h3⟩
end DL

namespace DL
open PySem PySem.Spec PyProof.Rows L2
section
variable {X : Cx} {pos : Pos} {e o : Expr} {es : List Expr} {te ta tb : TE'} {t : TA'} {x : Str} {c : Ct} {k n : Nat} {dd : List D}
/-! ### o.f as a target -/
def gFld (K : PySem.W.Frag) (ta : TE) (f : Str) : TG := fun y σ H Q => ta σ H fun x H2 => ∃ a C dx fs, x = .ref a ∧ H2 a = some (.ins C dx fs) ∧ Cls K C ∧ NoAttr K C f ∧ fs.length < 1000 ∧ Q σ (upd H2 a (.ins C dx (putF f y fs)))
theorem pg_fld {f : Str} {ta : TE} (ha : PE X o ta) : PG X (.Attribute o f pos) (gFld X.K ta f) := by
  refine ⟨fun pins s σ H v u Q I r h => ?_⟩
  rw [PySem.assign_Attribute]
  refine wpAny_bind (wpAny_holding (thn (ha.run pins s σ H _ I h) fun ov s1 ⟨x, H1, I1, rx, a, C, dx, fs, ex, ea, c, n, l, q⟩ => ?_))
  subst ex
  obtain rfl : ov = Value.ref a := rx
  refine wpAny_bind (wpAny_standAt (wpAny_bind (wpAny_holding ?_)))
  exact setattr_ok I1 ea c n l r fun s2 I2 => wpAny_release ⟨σ, _, I2, q⟩
def gFld' (C : Addr) (f : Nat) (to : TE') : TG' := fun v σ L k => to σ L fun o L1 => putD C f o v L1 fun L2 => k σ L2
theorem pg_fld' {C : Addr} {f : Nat} {x : Str} (cl : Cls X.K C) (na : NoAttr X.K C x) (ha : PE' X e te) (hx : fname f = x := by rfl) (hf : f < fnames.length := by decide) : PG' X (.Attribute e x pos) (gFld' C f te) :=
  lG (pg_fld ha) fun v σ H Q ⟨d, σd, L, Q', r, hs, hl, h, k⟩ => ⟨σd, L, _, hs, hl, h, fun o L1 vo H1 h1 t1 r1 l1 => by
    cases r1 with
    | ref =>
      obtain ⟨fs, L', c, z, q⟩ := (show ∃ fs, _ from h1)
      obtain ⟨dx, gs, e1, rr⟩ := l1.has c.has
      have t3 : TK X.K H1 (upd H1 _ (.ins C dx (putF x v gs))) := TK.chg e1 trivial
      have zz : fs.length ≤ 900 := Nat.le_of_ble_eq_true z
      refine ⟨_, C, dx, gs, rfl, e1, cl, na, by rw [← rr.length]; omega, k _ _ _ _ q (t1.trans t3) (hs.mono (t1.trans t3)) (l1.chg c rfl e1 trivial ⟨dx, _, upd_same, ?_⟩)⟩
      have z2 := (rr.put hf (r.mono t1)).mono t3
      rw [hx] at z2
      exact z2
    | _ => exact (show False from h1).elim⟩
/-! ### calls with keywords -/
theorem pe_callK' {p : Pos} {ks : List Str} {kws : List Keyword} {tk : TA'} {g : List D → List D → List D} (F : Fnk X.prog X.w X.K X.mg X.base x n ks g c k) (hr : Room k X.A) (hg : Gl X x) (ha : PA' X (e :: es) t) (hkw : PK' X kws tk)
    (hall : (backToKw pos (keywordEach kws X.env)).all (·.1.isSome) = true := by rfl) (hks : (backToKw pos (keywordEach kws X.env)).filterMap (·.1) = ks := by rfl)
    (hdb : (x == ("__debug__" : Str)) = false := by decide) (he : starEach (e :: es) X.env = (false, eval e X.env) :: starEach es X.env := by rfl)
    (hpl : ((backTo pos (starEach (e :: es) X.env)).any (·.1) || (backToKw pos (keywordEach kws X.env)).any (·.1.isNone)) = false := by rfl) :
    PE' X (.Call (.Name x p) (e :: es) kws pos) (tCallK' n ks.length g c t tk) := by
  obtain ⟨f, fd, ps, gU, gV, hm, hk, hb, hg2, F⟩ := F.ex
  exact lE (pe_callN F hr hg hm hk hb pass0 ha hkw hall hks hdb he hpl) fun σ H Q ⟨σd, L, Φ, hs, hl, ht, k⟩ => ⟨σd, L, _, hs, hl, ht, fun ds L1 vs H1 h1 t1 r1 l1 => ⟨σd, L1, _, hs.mono t1, l1, h1, fun us L2 ws H2 h2 t2 r2 l2 => by
    obtain ⟨q1, q2, q3⟩ := h2
    exact ⟨r1.length.symm.trans q1, r2.length.symm.trans q2, _, L2, Φ, hg2 _ _ _ _ _ (r1.mono t2) r2 q1 q2, l2, q3, k.mono (t1.trans t2)⟩⟩⟩
theorem pe_callN0 {f : Addr} {fd : FuncData} {ps : List Str} {sp : Sp} {CX : CXT} {E : XK} {p : Pos} {ks : List Str} {kws : List Keyword} {tk : TA} {g : List Value → List Value → List Value} {gV : List V → List V → List V} (F : FnOk X.prog X.w X.K X.mg X.base CX k f fd ps sp) (hr : Room k X.A) (hg : Gl X x) (hm : X.mg x = some (.ref f)) (hk : PySem.W.keepIn X.K (.ref f) = true) (hb : KBn X.K fd ps 0 ks g gV) (hx : Passes CX X E)
    (hkw : PK X kws tk) (hall : (backToKw pos (keywordEach kws X.env)).all (·.1.isSome) = true := by rfl) (hks : (backToKw pos (keywordEach kws X.env)).filterMap (·.1) = ks := by rfl)
    (hdb : (x == ("__debug__" : Str)) = false := by decide)
    (hpl : ((backTo pos (starEach [] X.env)).any (·.1) || (backToKw pos (keywordEach kws X.env)).any (·.1.isNone)) = false := by rfl) :
    PE X (.Call (.Name x p) [] kws pos) (tCallN 0 ks.length sp gV E tNil tk) := by
  refine ⟨fun pins s σ H Q I h => ?_⟩
  refine wpAny_Call_Name_kw (ld_glob I hg hm ?_ hdb)
  refine PySem.W.callWith_KW0 (h₀ := X.base) I.ok.mod.kin hk hall ?_ hpl
  refine thn (hkw.run pos pins s σ H _ I h) fun ws s2 ⟨zs, H2, I2, rz, l1, l2, q2⟩ => ⟨I2.kIn, ?_⟩
  rw [hks]
  exact run_fnN F hr hb hx I2 .nil rz l1 l2 q2
def tCallK0' (m : Nat) (g : List D → List D → List D) (c : Ct) (tk : TA') : TE' := fun σ L Φ => tk σ L fun es L2 => es.length = m ∧ c (g [] es) L2 Φ
theorem pe_callK0' {p : Pos} {ks : List Str} {kws : List Keyword} {tk : TA'} {g : List D → List D → List D} (F : Fnk X.prog X.w X.K X.mg X.base x 0 ks g c k) (hr : Room k X.A) (hg : Gl X x) (hkw : PK' X kws tk)
    (hall : (backToKw pos (keywordEach kws X.env)).all (·.1.isSome) = true := by rfl) (hks : (backToKw pos (keywordEach kws X.env)).filterMap (·.1) = ks := by rfl)
    (hdb : (x == ("__debug__" : Str)) = false := by decide)
    (hpl : ((backTo pos (starEach [] X.env)).any (·.1) || (backToKw pos (keywordEach kws X.env)).any (·.1.isNone)) = false := by rfl) :
    PE' X (.Call (.Name x p) [] kws pos) (tCallK0' ks.length g c tk) := by
  obtain ⟨f, fd, ps, gU, gV, hm, hk, hb, hg2, F⟩ := F.ex
  exact lE (pe_callN0 F hr hg hm hk hb pass0 hkw hall hks hdb hpl) fun σ H Q ⟨σd, L, Φ, hs, hl, ht, k⟩ => ⟨σd, L, _, hs, hl, ht, fun us L2 ws H2 h2 t2 r2 l2 => by
    obtain ⟨q2, q3⟩ := h2
    exact ⟨rfl, r2.length.symm.trans q2, _, L2, Φ, hg2 _ _ _ _ _ .nil r2 rfl q2, l2, q3, k.mono t2⟩⟩
/-! two targets -/
def tAsg2' (t : TE') (g1 g2 : TG') : TS' := fun D σ L => t σ L fun d L1 => g1 d σ L1 fun σ1 L2 => g2 d σ1 L2 D.nx
theorem ps_asg2' {t1 t2 : Expr} {g1 g2 : TG'} (he : PE' X e te) (h1 : PG' X t1 g1) (h2 : PG' X t2 g2) (ha : (assignEach [t1, t2] X.env).map (·.2) = [assign t1 X.env, assign t2 X.env] := by rfl) (hw : swappedStores [t1, t2] e X.env = pure none := by rfl) :
    PS' X (.Assign [t1, t2] e pos) (tAsg2' te g1 g2) :=
  lS (ps_asg2 he h1 h2 ha hw) fun D σ H ⟨σd, L, D', hs, hl, ht, k⟩ => ⟨σd, L, _, hs, hl, ht, fun d L1 v H1 h1 t1 r1 l1 => ⟨d, σd, L1, _, r1, hs.mono t1, l1, h1, fun σ2 L2 σ3 H2 h2 t2 s2 l2 => ⟨d, σ2, L2, _, r1.mono t2, s2, l2, h2, KontG.mono (t1.trans t2) k.nx⟩⟩⟩
/-! o.f op= e -/
def tFldAug' (C : Addr) (f : Nat) (to tv : TE') (g : F2) : TS' := fun D σ L => to σ L fun o L1 => match o with
  | .ref a => ∃ fs, Has L1 a (.ins C fs) ∧ getF f fs fun x => tv σ L1 fun y L2 => g x y L2 fun z L3 => putD C f (.ref a) z L3 fun L4 => D.nx σ L4
  | _ => False
theorem ps_fldaug' {C : Addr} {f : Nat} {x : Str} {value : Expr} {tv : TE'} {tpos : Pos} {op : Operator} {g : F2} {rd : V → V → Hp → VK → Prop} (cl : Cls X.K C) (na : NoAttr X.K C x) (od : OpD X.K g rd) (hop : InOp X op rd) (ha : PE' X e te) (hv : PE' X value tv) (hx : fname f = x := by rfl) (hf : f < fnames.length := by decide) :
    PS' X (.AugAssign (.Attribute e x tpos) op value pos) (tFldAug' C f te tv g) :=
  lS (ps_fldaug ha hv hop) fun D σ H ⟨σd, L, D', hs, hl, ht, k⟩ => ⟨σd, L, _, hs, hl, ht, fun o L1 vo H1 h1 t1 r1 l1 => by
    cases r1 with
    | @ref a =>
      obtain ⟨fs, hh, q⟩ := (show ∃ fs, _ from h1)
      obtain ⟨dx, gs, e1, rr⟩ := l1.has hh
      unfold getF at q
      cases eg : getN f fs with
      | none => rw [eg] at q; exact (show False from q).elim
      | some d =>
        rw [eg] at q
        obtain ⟨v, ev, rv⟩ := rr.get hf eg
        rw [hx] at ev
        refine ⟨a, C, dx, gs, v, rfl, e1, cl, na, ev, σd, L1, _, hs.mono t1, l1, q, fun y L2 vy H2 h2 t2 r2 l2 => od _ _ _ _ _ _ _ _ (rv.mono t2) r2 l2 h2 fun z L3 vz H3 h3 t3 r3 l3 => ?_⟩
        obtain ⟨fs', L', c, z, q⟩ := (show ∃ fs, _ from h3)
        obtain ⟨dx', gs', e1', rr'⟩ := l3.has c.has
        have t4 : TK X.K H3 (upd H3 _ (.ins C dx' (putF x vz gs'))) := TK.chg e1' trivial
        have zz : fs'.length ≤ 900 := Nat.le_of_ble_eq_true z
        have tt := ((t1.trans t2).trans t3).trans t4
        refine ⟨dx', gs', e1', by rw [← rr'.length]; omega, k.nx _ _ _ _ q tt (hs.mono tt) (l3.chg c rfl e1' trivial ⟨dx', _, upd_same, ?_⟩)⟩
        have z2 := (rr'.put hf r3).mono t4
        rw [hx] at z2
        exact z2
    | _ => exact (show False from h1).elim⟩
theorem od_inadd {K : PySem.W.Frag} : OpD K (fI fun i j => .int (i + j)) rAdd := fun d1 d2 x y L H Φ Q r1 r2 l h k => by
  cases r1 <;> cases r2 <;> first
    | exact (show False from h).elim
    | exact ⟨_, _, rfl, rfl, k _ _ _ _ h .refl .int l⟩
theorem od_insub {K : PySem.W.Frag} : OpD K (fI fun i j => .int (i - j)) rSub := fun d1 d2 x y L H Φ Q r1 r2 l h k => by
  cases r1 <;> cases r2 <;> first
    | exact (show False from h).elim
    | exact ⟨_, _, rfl, rfl, k _ _ _ _ h .refl .int l⟩
end
end DL

/-! what is walked: lists and tuples in one rule; enumerate over a tuple -/
namespace DL
open PySem PySem.Spec PyProof.Rows L2
section
variable {X : Cx} {tg : Expr}
def iSeqV (K : PySem.W.Frag) (tl : TE) : TI := fun σ H R => tl σ H fun x H1 => ∃ a, x = .ref a ∧ (((∃ xs, SqL K H1 a xs) ∧ R (Itl K a) H1) ∨ ((∃ xs, SqT K H1 a xs) ∧ R (Itt K a) H1))
theorem pi_seqV {l : Expr} {tl : TE} (hl : PE X l tl) : PI X tg l (iSeqV X.K tl) := by
  refine ⟨fun pins s σ H R I h => ?_⟩
  refine thn (hl.run pins s σ H _ I h) fun v s1 ⟨x, H1, I1, r1, a, e, q1⟩ => ?_
  subst e
  cases r1
  have fr : ∀ b ∈ [s1.heap.objs.size], FpOk X pins H1 b := fun b hb => by
    have e : b = s1.heap.objs.size := by simpa using hb
    subst e
    exact I1.fpOk (Nat.le_refl _) (I1.hok.fresh (Nat.le_refl _))
  rcases q1 with ⟨⟨xs, hq⟩, q⟩ | ⟨⟨xs, hq⟩, q⟩
  · obtain ⟨its, rv, p, hz⟩ := I1.list hq
    refine wpAny_pyIter_list p.isList ?_
    exact ⟨s1.heap.objs.size, [s1.heap.objs.size], _, _, H1, rfl, I1.kept (t' := s1.toks) fun b o e => Heap.get?_push_of_some _ e, turn_list a _, ⟨_, Heap.get?_push_size _ rfl, rfl, rfl⟩, fr, q⟩
  · obtain ⟨its, rv, p, hz⟩ := I1.tuple hq
    refine wpAny_pyIter_tuple (show s1.heap.IsTuple a its.toArray from p) ?_
    exact ⟨s1.heap.objs.size, [s1.heap.objs.size], _, _, H1, rfl, I1.kept (t' := s1.toks) fun b o e => Heap.get?_push_of_some _ e, turn_tuple a _, ⟨_, Heap.get?_push_size _ rfl, rfl, rfl⟩, fr, q⟩
end
/-! enumerate(tuple) -/
theorem meets_enum1 {v : Value} {o : Obj} {H : Heap → Prop} (B : Begins v o H) :
    Meets (Builtin.«enumerate.__new__» ⟨[.type "enumerate", v], []⟩) (fun _ R s => H s.heap ∧
      R (.ok (.ret (.ref (s.heap.push o).objs.size))) { s with heap := (s.heap.push o).push { cls := .type "enumerate", data := .fields #[.none, .bool false, .ref s.heap.objs.size, rawInt 0, .none, .none] } }) :=
  .of_wp fun prog w A R s h => by
    obtain ⟨hp, g, d, tk, os⟩ := s; obtain ⟨h1, h⟩ := h
    have hsub := sub_enumerate
    have q1 : ∀ {A' : Around} {E : Value → Shared → Prop} {Q : Value → Shared → Prop}, Q (.ref hp.objs.size) ⟨hp.push o, g, d, tk, os⟩ → wpAny (model prog w) A' (pyIter v) Q E ⟨hp, g, d, tk, os⟩ :=
      fun q => B.iter prog w _ _ ⟨hp, g, d, tk, os⟩ _ h1 q
    wp_walk using q1
    refine wpAny_stack_any fun st => wpAny_pure ?_
    split
    · rename_i c _ _ _ _ _
      cases (c == Value.type "enumerate")
      · wp_walk using q1
        exact ⟨_, rfl, h⟩
      · wp_walk using q1
        exact ⟨_, rfl, h⟩
    · wp_walk using q1
      exact ⟨_, rfl, h⟩
section
variable {prog : Program} {w : World} {A : Around} {E : Value → Shared → Prop} {s : Shared}
theorem enum_begins1 {v : Value} {o : Obj} {H : Heap → Prop} {Q : Value → Shared → Prop} (B : Begins v o H) (h1 : H s.heap)
    (h : ∀ h', IsEnum h' (s.heap.objs.size + 1) s.heap.objs.size 0 .none → h'.get? s.heap.objs.size = some o → h'.objs.size = s.heap.objs.size + 2 →
      (∀ b o, s.heap.get? b = some o → h'.get? b = some o) → Q (.ref (s.heap.objs.size + 1)) { s with heap := h' }) :
    wpAny (model prog w) A (call (.type "enumerate") [v]) Q E s := by
  refine callType_new F.called_enumerate (by decide) (F.typeCall_enumerate_1 _) (F.newCall_enumerate_1 _) (fun obj => F.args_object_init_2 obj _) F.entry_enumerate_new
    (meets_enum1 B) ⟨h1, ?_⟩
  have hz : (s.heap.push o).objs.size = s.heap.objs.size + 1 := Heap.size_push ..
  show _ ∧ _
  rw [hz]
  have he : IsEnum ((s.heap.push o).push { cls := .type "enumerate", data := .fields #[.none, .bool false, .ref s.heap.objs.size, rawInt 0, .none, .none] }) (s.heap.objs.size + 1) s.heap.objs.size 0 .none := by
    have := Heap.get?_push_size (s.heap.push o) (o := { cls := .type "enumerate", data := .fields #[.none, .bool false, .ref s.heap.objs.size, rawInt 0, .none, .none] }) rfl
    rw [hz] at this; exact this
  refine ⟨⟨_, he, rfl⟩, h _ he (Heap.get?_push_of_some _ (Heap.get?_push_size _ B.free)) (by rw [Heap.size_push, hz]) fun b o x => Heap.get?_push_of_some _ (Heap.get?_push_of_some _ x)⟩
end
def IteT (K : PySem.W.Frag) (a : Addr) : It :=
  ⟨fun i H => ∃ (xs : List V) (x : V), SqT K H a xs ∧ xs[i]? = some x, fun i H v H' => ∃ T x, v = .ref T ∧ H T = none ∧ H' = upd H T (.tup [.int (i : Nat), x]) ∧ ∀ xs, SqT K H a xs → xs[i]? = some x, fun i H => ∃ xs : List V, SqT K H a xs ∧ xs.length ≤ i⟩
theorem turn_enumT {P : Program} {w : World} {K : PySem.W.Frag} {elts : List Expr} {kk : Nat} {tpos : Pos} (a e it : Addr) (hai : a ≠ it) (hae : a ≠ e) :
    Turn P w K (.Tuple elts kk tpos) (IteT K a) [e, it] e (fun i h => (∃ old, IsEnum h e it ((i : Nat) : Int) old) ∧ h.IsTupleIter it a i ∧ e ≠ it) where
  mem := by simp
  obj := fun i h st b hb => by
    obtain ⟨⟨old, he⟩, ⟨o, ho, hc, hd⟩, _⟩ := st
    have e' : b = e ∨ b = it := by simpa using hb
    rcases e' with z | z
    · rw [z]; exact ⟨_, he, fun v q => nomatch q⟩
    · rw [z]; exact ⟨o, ho, fun v q => by rw [hd] at q; cases q⟩
  keep := fun i h h' st k => let ⟨⟨old, he⟩, hi, hne⟩ := st; ⟨⟨old, k e (by simp) _ he⟩, hi.at fun o q => k it (by simp) o q, hne⟩
  item := by
    intro X hP hw hK hc i pins s σ H E I hf st hg
    subst hP hw hK
    obtain ⟨⟨old, he⟩, hit, hne⟩ := st
    obtain ⟨xs, x, hq, hx⟩ := hg
    obtain ⟨its, rv, p, hz⟩ := I.tuple hq
    obtain ⟨u, hu, ru⟩ := rv.get hx
    have hel : e < s.heap.objs.size := Heap.lt_size he
    have hil : it < s.heap.objs.size := by obtain ⟨_, q, _⟩ := hit; exact Heap.lt_size q
    have Dr := Draws.tuple (prog := X.prog) (w := X.w) (A := X.A.in1) (I.ok.hd hc) it a hai its.toArray
    refine wpAny_pyNext_enum_itemD Dr he ⟨hit, p⟩ (by
      have := (List.getElem?_eq_some_iff.mp hu).1
      simpa using this) hne (by simp [hne, hae.symm]) fun x' h' tk hx' ho hit' hT hsz hk => ?_
    have ex : x' = u := by
      have q := hx'.symm.trans (show its.toArray[i]? = some u by simpa using hu)
      exact Option.some.inj q
    subst ex
    refine ⟨_, rfl, wpAny_letOwnedTupleGo_enum (s := { s with heap := h', toks := tk + 1 }) ho fun h'' he' sb => ?_⟩
    have hT2 : h''.get? s.heap.objs.size = some { cls := .type "tuple", data := .seq #[.int i tk, x'] } := (sb.2 _ (Nat.ne_of_gt hel)).trans hT
    have new : ObjOk X.prog X.w (upd H s.heap.objs.size (.tup [.int (i : Nat), x])) h'' s.heap.objs.size (.tup [.int (i : Nat), x]) :=
      ⟨by show 2 ≤ sizeLine; decide, [.int i tk, x'], .cons ⟨_, rfl⟩ (.cons ru .nil), ⟨_, hT2, rfl, _, rfl⟩⟩
    have I1 : Inv X pins σ (upd H s.heap.objs.size (.tup [.int (i : Nat), x])) { s with heap := h'', toks := tk + 1 } :=
      I.turnedNew (ch := [e, it]) (fun b ob hb q => (sb.2 b (fun z => hb (by simp [z]))).trans (hk b ob (fun z => hb (by simp [z])) (fun z => hb (by simp [z])) q)) hf (Nat.le_refl _) new
    refine ⟨.ref s.heap.objs.size, _, I1, rfl, ⟨_, x, rfl, I.hok.fresh (Nat.le_refl _), rfl, fun ys hy => by rw [I.tuple_inj hy hq]; exact hx⟩, ⟨⟨x', ?_⟩, hit'.1.at fun o q => (sb.2 it (Ne.symm hne)).trans q, hne⟩, fun b hb => ?_⟩
    · have e1 : ((i + 1 : Nat) : Int) = (i : Int) + 1 := by omega
      rw [e1]; exact he'
    · have hb' : b < s.heap.objs.size := by
        have e' : b = e ∨ b = it := by simpa using hb
        rcases e' with z | z
        · rw [z]; exact hel
        · rw [z]; exact hil
      rw [upd_ne (Nat.ne_of_lt hb')]
      exact (hf b hb).1
  done := by
    intro X hP hw hK hc i pins s σ H E I hf st hg
    subst hP hw hK
    obtain ⟨⟨old, he⟩, hit, hne⟩ := st
    obtain ⟨xs, hq, hx⟩ := hg
    obtain ⟨its, rv, p, hz⟩ := I.tuple hq
    obtain ⟨f0, f1, f2, f3, f4, f5⟩ := hf it (by simp)
    have hl := rv.length
    have hT : s.TypeIs (.ref e) "enumerate" := ⟨_, he, rfl⟩
    unfold pyNext
    refine wpAny_bind (wpAny_attempt (wpAny_callSpecial?_slot (name := Str.ofString "__next__") hT F.slot_enumerate_next
      (wpAny_call_entry F.slot_enumerate_next hT F.entry_enumerate_next ?_ (F.args_enumerate_next_1 _))))
    show wpAny _ _ (field (.ref e) 2 >>= _) _ _ _
    refine wpAny_bind (wpAny_field he rfl (x := .ref it) rfl ?_)
    refine wpAny_bind (wpAny_nextOf_tuple_end (I.ok.hd hc) hit (show s.heap.IsTuple a its.toArray from p) (by simp; omega) fun h' x he' hx' => ?_)
    obtain ⟨o, ho, hc'⟩ := hx'
    refine wpAny_bind (wpAny_isInstance (T := "StopIteration") (b := true) ⟨o, ho, hc'⟩ isSubtype_stop ?_)
    exact wpAny_pure ⟨rfl, I.turned (t' := s.toks) (fun b o hb q => he' b o hb q) f0 f1 f3 f4 f5⟩
  self := fun A i s Q E st h => let ⟨⟨_, he⟩, _⟩ := st; wpAny_pyIter_enum he h
def iEnumV (K : PySem.W.Frag) (ta : TA) : TI := fun σ H R => ta σ H fun vs H1 => ∃ a xs, vs = [.ref a] ∧ ((SqL K H1 a xs ∧ R (Ite K a) H1) ∨ (SqT K H1 a xs ∧ R (IteT K a) H1))
theorem pi_enumV {X : Cx} {e : Expr} {ta : TA} {p pos tpos : Pos} {elts : List Expr} {kk : Nat} (hg : Gl X "enumerate") (hm : X.mg "enumerate" = none) (ha : PA X [e] ta) (hs : starEach [e] X.env = [(false, eval e X.env)] := by rfl) :
    PI X (.Tuple elts kk tpos) (.Call (.Name "enumerate" p) [e] [] pos) (iEnumV X.K ta) := by
  refine ⟨fun pins s σ H R I h => ?_⟩
  refine Call_ (ld_blt I hg hm boot_enumerate (PyProof.Rows.callWith_type1 (thn (ha.run pos pins s σ H _ I h) fun us s1 ⟨vs, H1, I1, r1, q1⟩ => ?_) hs rfl))
  obtain ⟨a, xs, ex, q⟩ := q1
  subst ex
  cases r1 with
  | cons r rr =>
    cases rr
    cases r
    have fr : ∀ b ∈ [s1.heap.objs.size + 1, s1.heap.objs.size], FpOk X pins H1 b := fun b hb => by
      have e' : b = s1.heap.objs.size + 1 ∨ b = s1.heap.objs.size := by simpa using hb
      have hle : s1.heap.objs.size ≤ b := by
        rcases e' with z | z
        · rw [z]; exact Nat.le_add_right _ _
        · rw [z]; exact Nat.le_refl _
      exact I1.fpOk hle (I1.hok.fresh hle)
    rcases q with ⟨hq, q⟩ | ⟨hq, q⟩
    · obtain ⟨its, rv, p', hz⟩ := I1.list hq
      refine call_enumerate_list p'.isList fun h' he hit hsz hk => wpAny_pyIter_enum he ?_
      have I2 : Inv X pins σ H1 { s1 with heap := h' } := I1.kept (t' := s1.toks) hk
      exact ⟨s1.heap.objs.size + 1, [s1.heap.objs.size + 1, s1.heap.objs.size], _, _, H1, rfl, I2, turn_enum a (s1.heap.objs.size + 1) s1.heap.objs.size, ⟨⟨.none, he⟩, hit, Nat.succ_ne_self _⟩, fr, q⟩
    · obtain ⟨its, rv, p', hz⟩ := I1.tuple hq
      obtain ⟨o1, ho1, _⟩ := id p'
      have hal : a < s1.heap.objs.size := Heap.lt_size ho1
      refine enum_begins1 (begins_tuple a its.toArray) (show s1.heap.IsTuple a its.toArray from p') fun h' he hit hsz hk => wpAny_pyIter_enum he ?_
      have I2 : Inv X pins σ H1 { s1 with heap := h' } := I1.kept (t' := s1.toks) hk
      exact ⟨s1.heap.objs.size + 1, [s1.heap.objs.size + 1, s1.heap.objs.size], _, _, H1, rfl, I2, turn_enumT a (s1.heap.objs.size + 1) s1.heap.objs.size (Nat.ne_of_lt hal) (Nat.ne_of_lt (Nat.lt_succ_of_lt hal)), ⟨⟨.none, he⟩, ⟨_, hit, rfl, rfl⟩, Nat.succ_ne_self _⟩, fr, q⟩
/-! the readings -/
section
variable {X : Cx} {pos : Pos} {e : Expr} {es : List Expr} {te : TE'} {tA : TA'}
def iSeq' (t : TE') : TI' := fun σ L R => t σ L fun d L1 => match d with
  | .ref a => ∃ ds, HasL L1 a ds ∧ R ds (fun L => HasL L a ds) L1
  | .tup ds => R ds (fun _ => True) L1
  | _ => False
theorem pi_seq' {tg : Expr} (h : PE' X e te) : PI' X tg e (iSeq' te) := lI (pi_seqV h) fun σ H R ⟨σd, L, R', hs, hl, ht, k⟩ => ⟨σd, L, _, hs, hl, ht, fun d L1 v H1 h1 t1 r1 l1 => by
  cases r1 with
  | ref =>
    obtain ⟨ds, hh, q⟩ := (show ∃ ds, _ from h1)
    obtain ⟨vs, e, r⟩ := l1.seq hh
    exact ⟨_, rfl, .inl ⟨⟨vs, e⟩, k _ _ _ _ _ q itr_list t1 l1⟩⟩
  | tup s r => exact ⟨_, rfl, .inr ⟨⟨_, s⟩, k _ _ _ _ _ h1 (itr_tup s r) t1 l1⟩⟩
  | _ => exact (show False from h1).elim⟩
theorem itr_enumT {K : PySem.W.Frag} {H0 : Hp} {a : Addr} {ds : List D} {vs : List V} (s : SqT K H0 a vs) (r : DRs K H0 ds vs) : ItR K H0 (enumD ds) (fun _ => True) (IteT K a) where
  go := fun i L H t l st hi => by
    rw [enumD_length] at hi
    have : i < vs.length := by rw [← r.length]; exact hi
    exact ⟨vs, vs[i], t _ _ s, List.getElem?_eq_getElem this⟩
  yld := fun i L H x H' d t l st hd hy => by
    obtain ⟨T, y, rfl, hT, rfl, hy⟩ := hy
    obtain ⟨de, h1, rfl⟩ := enumD_get hd
    obtain ⟨v, hv, rv⟩ := r.get h1
    have e2 : y = v := Option.some.inj ((hy vs (t _ _ s)).symm.trans hv)
    subst e2
    exact ⟨TK.new hT, dr_newt hT (.cons .int (.cons (rv.mono t) .nil)), l.mono_new hT⟩
  stop := fun L H t l st => ⟨vs, t _ _ s, by rw [enumD_length, r.length]; exact Nat.le_refl _⟩
def iEnumA' (t : TA') : TI' := fun σ L R => t σ L fun ds L1 => one ds fun d => match d with
  | .ref a => ∃ xs, HasL L1 a xs ∧ R (enumD xs) (fun L => HasL L a xs) L1
  | .tup xs => R (enumD xs) (fun _ => True) L1
  | _ => False
theorem pi_enumA' {p tpos : Pos} {elts : List Expr} {kk : Nat} (hg : Gl X "enumerate") (hm : X.mg "enumerate" = none) (ha : PA' X [e] tA) (hs : starEach [e] X.env = [(false, eval e X.env)] := by rfl) :
    PI' X (.Tuple elts kk tpos) (.Call (.Name "enumerate" p) [e] [] pos) (iEnumA' tA) :=
  lI (pi_enumV hg hm ha hs) fun σ H R ⟨σd, L, R', hs, hl, ht, k⟩ => ⟨σd, L, _, hs, hl, ht, fun ds L1 vs H1 h1 t1 r1 l1 => by
    obtain ⟨d, v, rfl, rfl, rd, q⟩ := one_dr r1 h1
    cases rd with
    | ref =>
      obtain ⟨xs, hh, q⟩ := (show ∃ xs, _ from q)
      obtain ⟨us, e, r⟩ := l1.seq hh
      exact ⟨_, us, rfl, .inl ⟨e, k _ _ _ _ _ q itr_enum t1 l1⟩⟩
    | tup s r => exact ⟨_, _, rfl, .inr ⟨s, k _ _ _ _ _ q (itr_enumT s r) t1 l1⟩⟩
    | _ => exact (show False from q).elim⟩
end
end DL

namespace DL
open PySem PySem.Spec PyProof.Rows L2
/-- where the classes stand -/
structure Cl where
  Honest : Addr
  Told : Addr
  Known : Addr
  Sorting : Addr
  Joiner : Addr
  Amid : Addr
  Heapifying : Addr
  Numbering : Addr
  Tally : Addr
  BlockSort : Addr
  Stack : Addr
  Sorter : Addr
  LessSort : Addr
  KeySort : Addr
  Line : Addr
/-! ### stops of the walk -/
theorem Br.t {T F : Prop} (h : T) : Br true T F := ⟨fun _ => h, fun z => by cases z⟩
theorem Br.f {T F : Prop} (h : F) : Br false T F := ⟨fun z => by (cases z), fun _ => h⟩
theorem Br.dec {p : Prop} [Decidable p] {T F : Prop} (h : p → T) (k : ¬ p → F) : Br (decide p) T F := ⟨fun z => h (of_decide_eq_true z), fun z => k (of_decide_eq_false z)⟩
theorem Br.ndec {p : Prop} [Decidable p] {T F : Prop} (h : ¬ p → T) (k : p → F) : Br (!decide p) T F := by
  refine ⟨fun z => h ?_, fun z => k ?_⟩
  · simpa using z
  · simpa using z
theorem Br.not {b : Bool} {T F : Prop} (h : Br b F T) : Br (!b) T F := by
  cases b
  · exact ⟨fun _ => h.2 rfl, fun z => by cases z⟩
  · exact ⟨fun z => (by cases z), fun _ => h.1 rfl⟩
end DL

namespace DL
open PySem PySem.Spec PyProof.Rows L2
/-! ### small facts of readings -/
theorem cutD_nat {xs : List D} {a b : Int} (i j : Nat) (ha : a = i) (hb : b = j) (h1 : i ≤ j) (h2 : j ≤ xs.length) : cutD xs (some a) (some b) = (xs.drop i).take (j - i) := by
  subst ha hb
  unfold cutD
  rw [HT.sIx_nat, HT.sIx_nat, Nat.min_eq_left h2, Nat.min_eq_left (Nat.le_trans h1 h2)]
theorem cutD_from {xs : List D} {a : Int} (i : Nat) (ha : a = i) (h1 : i ≤ xs.length) : cutD xs (some a) none = xs.drop i := by
  subst ha
  unfold cutD
  rw [HT.sIx_nat, HT.sIx_none, Nat.min_eq_left h1, List.take_of_length_le (by simp)]
theorem cutD_to {xs : List D} {b : Int} (j : Nat) (hb : b = j) (h2 : j ≤ xs.length) : cutD xs none (some b) = xs.take j := by
  subst hb
  unfold cutD
  rw [HT.sIx_nat, HT.sIx_none, Nat.min_eq_left h2]
  simp
theorem cutD_toAny {xs : List D} {b : Int} (j : Nat) (hb : b = j) : cutD xs none (some b) = xs.take j := by
  subst hb
  unfold cutD
  rw [HT.sIx_nat, HT.sIx_none]
  simp only [List.drop_zero, Nat.sub_zero]
  rcases Nat.le_total j xs.length with h | h
  · rw [Nat.min_eq_left h]
  · rw [Nat.min_eq_right h, List.take_of_length_le (Nat.le_refl _), List.take_of_length_le h]
theorem cutD_all {xs : List D} : cutD xs none none = xs := by
  unfold cutD
  rw [HT.sIx_none, HT.sIx_none]
  simp
theorem cutD_len {xs : List D} {a b : Option Int} : (cutD xs a b).length ≤ xs.length := by
  unfold cutD
  rw [List.length_take, List.length_drop]
  omega
theorem atI_of {α : Type} {xs : List α} {i : Int} {v : α} (j : Nat) (e : i = j) (h : xs[j]? = some v) : atI xs i = some v := by
  subst e
  exact atI_nat h
def dn (i : Nat) : D := .int i
theorem atI_dn {row : List Nat} {i : Int} (j : Nat) (e : i = j) (h : j < row.length) : atI (row.map dn) i = some (dn (row.getD j 0)) := by
  refine atI_of j e ?_
  rw [List.getElem?_map, List.getElem?_eq_getElem h]
  simp [List.getD, List.getElem?_eq_getElem h]
theorem atI_int {row : List Int} {i : Int} (j : Nat) (e : i = j) (h : j < row.length) : atI (row.map D.int) i = some (.int (row.getD j 0)) := by
  refine atI_of j e ?_
  rw [List.getElem?_map, List.getElem?_eq_getElem h]
  simp [List.getD, List.getElem?_eq_getElem h]
theorem ixN_of {n : Nat} {i : Int} (j : Nat) (e : i = j) (h : j < n) : ixN n i = some j := by
  subst e
  unfold ixN
  rw [if_pos (by omega), if_pos (by omega)]
  simp
theorem atI_lastD {α : Type} {xs : List α} {v : α} (h : xs[xs.length - 1]? = some v) : atI xs (-1) = some v := by
  unfold atI ixN
  have : 0 < xs.length := by
    rcases Nat.eq_zero_or_pos xs.length with z | z
    · rw [List.length_eq_zero_iff.mp z] at h; cases h
    · exact z
  rw [if_neg (by omega), if_pos (by omega)]
  show xs[(-1 + (xs.length : Int)).toNat]? = _
  rw [show (-1 + (xs.length : Int)).toNat = xs.length - 1 by omega]
  exact h
theorem Br.dec_t {p : Prop} [Decidable p] {T F : Prop} (hp : p) (h : T) : Br (decide p) T F := .dec (fun _ => h) fun z => (z hp).elim
theorem Br.dec_f {p : Prop} [Decidable p] {T F : Prop} (hp : ¬ p) (h : F) : Br (decide p) T F := .dec (fun z => (hp z).elim) fun _ => h
theorem Ret.int {L L2 : LL} {Φ : DK} {i j : Int} (c : Cov L L2) (h : Φ (.int i) L2) (e : i = j) : Ret L (Φ (.int j)) := by
  subst e
  exact ⟨L2, c, h⟩
theorem Ret.bl {L L2 : LL} {Φ : DK} {i j : Bool} (c : Cov L L2) (h : Φ (.bl i) L2) (e : i = j) : Ret L (Φ (.bl j)) := by
  subst e
  exact ⟨L2, c, h⟩
theorem Ret.eq {L L2 : LL} {Φ : DK} {i j : D} (c : Cov L L2) (h : Φ i L2) (e : i = j) : Ret L (Φ j) := by
  subst e
  exact ⟨L2, c, h⟩
end DL

namespace DL
open PySem PySem.Spec PyProof.Rows L2
theorem Sel.chg {L L1 : LL} {a : Addr} {o : LO} (o' : LO) (s : Sel L a o L1) : ∃ L5, Chg L a o o' L5 ∧ Sel L5 a o' L1 := by
  induction s with
  | here => exact ⟨_, .here, .here⟩
  | there _ ih =>
    obtain ⟨L5, c, s⟩ := ih
    exact ⟨_, .there c, .there s⟩
theorem Cov.chg {L M : LL} {a : Addr} {o : LO} (o' : LO) (c : Cov L ((a, o) :: M)) : ∃ L5, Chg L a o o' L5 ∧ Cov L5 ((a, o') :: M) := by
  generalize e : (a, o) :: M = N at c
  induction c with
  | refl => subst e; exact ⟨_, .here, .refl⟩
  | drop _ ih =>
    obtain ⟨L5, c, s⟩ := ih e
    exact ⟨_, .there c, .drop s⟩
  | take s eq c _ =>
    cases e
    subst eq
    obtain ⟨L5, c5, s5⟩ := s.chg o'
    exact ⟨L5, c5, .take s5 rfl c⟩
/-- [te for g in items], each item by itself, the heap kept -/
theorem LcI.pure {α : Type} {items : List D} {st : LL → Prop} {g : TG'} {te : TE'} {vs : List Nat} {p : Addr} {σ : Sl} {L : LL} {Φ : DK} (xs : List α) (toD out : α → D) (hi : items = xs.map toD) (hs : ∀ acc, st ((p, .lst acc) :: L)) (hz : xs.length ≤ 1000000)
    (step : ∀ x ∈ xs, ∀ (acc : List D) (Ψ : DK), (∀ L', Cov L' ((p, .lst acc) :: L) → Ψ (out x) L') → g (toD x) (wipeD σ vs) ((p, .lst acc) :: L) fun σ2 L2 => te σ2 L2 Ψ) (done : Φ (.ref p) ((p, .lst (xs.map out)) :: L)) : LcI items st g tYes' te vs p σ L Φ := by
  subst hi
  refine LcI.inv (α := Unit) (fun i _ => (p, .lst ((xs.take i).map out)) :: L) (fun _ _ => True) () .refl trivial ?_ ?_
  · intro i u d hd _
    refine ⟨hs _, ?_⟩
    rw [List.getElem?_map] at hd
    obtain ⟨x, hx, rfl⟩ := Option.map_eq_some_iff.mp hd
    have hlt : i < xs.length := (List.getElem?_eq_some_iff.mp hx).1
    refine step x (List.mem_of_getElem? hx) _ _ fun L' c' => ?_
    obtain ⟨L5, c5, v5⟩ := c'.chg (.lst ((xs.take i).map out ++ [out x]))
    refine ⟨_, L5, c5, ?_, ?_⟩
    · rw [List.length_map, List.length_take]
      omega
    · refine NxL.mk () ?_ trivial
      have e : (xs.take i).map out ++ [out x] = (xs.take (i + 1)).map out := by
        rw [List.take_add_one, hx]
        simp
      rw [← e]
      exact v5
  · intro u _
    refine ⟨hs _, ?_⟩
    rw [List.length_map, List.take_length]
    exact done
theorem mulOk_r {i j : Int} (h1 : -(2 ^ 64) < j) (h2 : j < 2 ^ 64) : MulOk i j := .inl (.inr ⟨h1, h2⟩)
theorem mulOk_l {i j : Int} (h1 : -(2 ^ 64) < i) (h2 : i < 2 ^ 64) : MulOk i j := .inl (.inl ⟨h1, h2⟩)
theorem divOk_of {j : Int} (h1 : 0 < j) (h2 : j < 2 ^ 100) : DivOk j := by
  refine ⟨h1, ?_⟩
  have : j.natAbs.log2 < 100 := by
    have h3 : j.natAbs < 2 ^ 100 := by omega
    rcases Nat.eq_zero_or_pos j.natAbs with z | z
    · rw [z]; decide
    · exact (Nat.log2_lt (by omega)).mpr h3
  omega
theorem eqvAll_ints : ∀ xs ys : List Int, PyData.eqvAll (xs.map .int) (ys.map .int) = decide (xs = ys)
  | [], [] => by simp [PyData.eqvAll]
  | [], y :: ys => by simp [PyData.eqvAll]
  | x :: xs, [] => by simp [PyData.eqvAll]
  | x :: xs, y :: ys => by
    simp only [List.map_cons, PyData.eqvAll, PyData.eqv, eqvAll_ints xs ys]
    by_cases h : x = y
    · subst h; simp
    · simp [h]
theorem deepE.ints {a b : Addr} {L : LL} {xs ys : List Int} {k : Bool → Prop} (ha : HasL L a (xs.map .int)) (hb : HasL L b (ys.map .int)) (h : k (decide (xs = ys))) : deepE (.ref a) (.ref b) L k := by
  refine .mk (.list (xs.map .int)) (.list (ys.map .int)) (.lst ha (DpDs.ints xs)) (.lst hb (DpDs.ints ys)) ?_
  have e : PyData.eqv (.list (xs.map .int)) (.list (ys.map .int)) = decide (xs = ys) := by
    rw [PyData.eqv]
    exact eqvAll_ints xs ys
  rw [e]
  exact h
theorem deepE.tints {L : LL} {xs ys : List Int} {k : Bool → Prop} (h : k (decide (xs = ys))) : deepE (.tup (xs.map .int)) (.tup (ys.map .int)) L k := by
  refine .mk (.tuple (xs.map .int)) (.tuple (ys.map .int)) (.tup (DpDs.ints xs)) (.tup (DpDs.ints ys)) ?_
  have e : PyData.eqv (.tuple (xs.map .int)) (.tuple (ys.map .int)) = decide (xs = ys) := by
    rw [PyData.eqv]
    exact eqvAll_ints xs ys
  rw [e]
  exact h
/-! ### ends of a law -/
theorem fnOkF {P : Program} {w : World} {K : PySem.W.Frag} {mg : Str → Option Value} {base : Heap} {x qual : Str} {params : Arguments} {body : List Stmt} {scope : Scope} {dvs : List V} {kws : List (Str × V)} {f : Addr} {fd : FuncData} {ps : List Str} {k : Nat}
    (_F : FunD K x qual params body scope dvs kws f fd) : FnOk P w K mg base CX0 k f fd ps (liftC K fun _ _ _ => False) :=
  ⟨fun _ _ _ _ h => by obtain ⟨_, _, _, _, _, h, _⟩ := h; exact h.elim, fun _ _ _ _ _ _ _ _ _ _ _ _ _ h => by obtain ⟨_, _, _, _, _, h, _⟩ := h; exact h.elim⟩
theorem law_start {K : PySem.W.Frag} {H : Hp} {S : Sc} {a : Addr} {ns : List Int} {E : XK} (hO : Only H) (hS : SqL K H a (ns.map V.int)) (h : True → S [.ref a] ([(a, .ro (ns.map .int))]) [] fun d _ => d = .bl true) :
    liftC K (CtOf S) [.ref a] H (fun v _ => v = .bl true) E := by
  refine ⟨[.ref a], [(a, .ro (ns.map .int))], fun d _ => d = .bl true, .cons .ref .nil, ⟨fun p hp => ?_, by simp⟩, ⟨_, _, .cons .here rfl .nil, h trivial⟩, fun d L v H' e _ r _ => ?_⟩
  · simp only [List.mem_singleton] at hp
    subst hp
    refine ⟨ns.map V.int, ?_, DRs.ints ns⟩
    rcases hS with (hS | ⟨o, hS⟩) | hS
    · rcases hO a with e | ⟨o, xs, e⟩
      · rw [e] at hS; cases hS
      · rw [e] at hS; cases hS
    · exact .inl ⟨o, hS⟩
    · exact .inr hS
  · subst e
    cases r
    rfl
theorem kbn_plain {K : PySem.W.Frag} {x qual : Str} {params : Arguments} {body : List Stmt} {scope : Scope} {f : Addr} {fd : FuncData} {ps : List Str} {n : Nat} {ks : List Str} (F : FunD K x qual params body scope [] [] f fd)
    (h : ∀ (kV doc pm : Value) (an : Option Addr) (cdv ct : Value) (us ws : List Value), us.length = n → ws.length = ks.length → bindArgs (PySem.W.fnOf x qual params body scope .none kV doc pm an cdv ct) ⟨us, ks.zip ws⟩ = pure (ps.zip (us ++ ws))) :
    KBn K fd ps n ks (fun us ws => us ++ ws) fun vs zs => vs ++ zs := by
  obtain ⟨oc, od, dV, kV, doc, pm, an, cdv, ct, osl, rfl, lk, hcd, hD, hK⟩ := F.ex
  rcases hD with ⟨_, rfl⟩ | ⟨e, _⟩
  · exact ⟨fun s us ws _ l1 l2 => .of_eq (h kV doc pm an cdv ct us ws l1 l2), fun r1 r2 => r1.append r2⟩
  · exact absurd rfl e
end DL

/-! the program: mirrors and contracts of rows, placing, runs -/
namespace DL
open PySem PySem.Spec PyProof.Rows L2
abbrev Log := List (Nat × Nat × Bool)
def lgD (e : Nat × Nat × Bool) : D := .tup [.tup [.int e.1, .int e.2.1], .bl e.2.2]
def keyN (ms : List Int) (i : Nat) : Int := ms.getD i 0
def lessN (ms : List Int) (i j : Nat) : Bool := decide (keyN ms i < keyN ms j)
/-- an Honest asker -/
def honF (cl : Cl) (h mk la : Addr) (ms : List Int) (lg : Log) : LL := [(h, .ins cl.Honest [(0, .ref mk), (1, .ref la)]), (mk, .lst (ms.map .int)), (la, .lst (lg.map lgD))]
abbrev intsO (ms : List Int) : LO := .lst (ms.map .int)
abbrev rowO (row : List Nat) : LO := .lst (row.map dn)
def Row (ms : List Int) (row : List Nat) : Prop := ∀ x ∈ row, x < ms.length
/-! rows -/
def S_Honest_init (cl : Cl) : Sc := fun ds F R Φ => ∃ (h q : Addr) (ms : List Int), ds = [.ref h, .ref q] ∧ F = [(h, .ins cl.Honest []), (q, intsO ms)] ∧ ∀ mk la, Φ .non (honF cl h mk la ms [] ++ [(q, intsO ms)] ++ R)
def C_Honest___init__ (cl : Cl) : Ct := CtOf (S_Honest_init cl)
def S_less (cl : Cl) : Sc := fun ds F R Φ => ∃ (h mk la : Addr) (ms : List Int) (lg : Log) (i j : Nat), ds = [.ref h, .int i, .int j] ∧ F = honF cl h mk la ms lg ∧ (i < ms.length ∧ j < ms.length ∧ lg.length ≤ 1000000) ∧
  Φ (.bl (lessN ms i j)) (honF cl h mk la ms (lg ++ [(i, j, lessN ms i j)]) ++ R)
def C_Honest_less (cl : Cl) : Ct := CtOf (S_less cl)
def S_is_integer (cl : Cl) : Sc := fun ds F R Φ => ∃ i : Int, ds = [.int i] ∧ F = [] ∧ Φ (.bl true) R
def C_is_integer (cl : Cl) : Ct := CtOf (S_is_integer cl)
def S_is_between (cl : Cl) : Sc := fun ds F R Φ => ∃ i lo hi : Int, ds = [.int i, .int lo, .int hi] ∧ F = [] ∧ Φ (.bl (decide (lo ≤ i ∧ i ≤ hi))) R
def C_is_between (cl : Cl) : Ct := CtOf (S_is_between cl)
def S_require_keys (cl : Cl) : Sc := fun ds F R Φ => ∃ (q : Addr) (ms : List Int) (most : Int), ds = [.ref q, .int most] ∧ F = [(q, intsO ms)] ∧ (ms.length : Int) ≤ most ∧ Φ .non ([(q, intsO ms)] ++ R)
def C_require_keys (cl : Cl) : Ct := CtOf (S_require_keys cl)
def S_require_bool (cl : Cl) : Sc := fun ds F R Φ => ∃ (x : Str) (b : Bool), ds = [.str x, .bl b] ∧ F = [] ∧ Φ .non R
def C_require_bool (cl : Cl) : Ct := CtOf (S_require_bool cl)
/-! placing -/
def leastGo : Nat → Nat → Nat → Nat
  | 0, m, o => m + o
  | f + 1, m, o => if 64 ≤ m then leastGo f (m / 2) (if o = 0 then m % 2 else o) else m + o
def leastN (m : Nat) : Nat := leastGo m m 0
def S_least_of (cl : Cl) : Sc := fun ds F R Φ => ∃ m : Nat, ds = [.int m] ∧ F = [] ∧ Φ (.int (leastN m)) R
def C_least_of (cl : Cl) : Ct := CtOf (S_least_of cl)
/-! runs -/
def turnN (row : List Nat) (s e : Nat) : List Nat := row.take s ++ ((row.drop s).take (e - s)).reverse ++ row.drop e
def turnE (row : List Nat) (p q : Nat) : List Nat := if 0 < q then turnN row (p - q - 1) p else row
def S_turn_about (cl : Cl) : Sc := fun ds F R Φ => ∃ (r : Addr) (row : List Nat) (i j : Nat), ds = [.ref r, .int i, .int j] ∧ F = [(r, rowO row)] ∧ (i ≤ j ∧ j ≤ row.length ∧ row.length ≤ 100000) ∧ Φ .non ([(r, rowO (turnN row i j))] ++ R)
def C_turn_about (cl : Cl) : Ct := CtOf (S_turn_about cl)
def S_turn_equal (cl : Cl) : Sc := fun ds F R Φ => ∃ (r : Addr) (row : List Nat) (p q : Nat), ds = [.ref r, .int p, .int q] ∧ F = [(r, rowO row)] ∧ ((0 < q → q + 1 ≤ p) ∧ p ≤ row.length ∧ row.length ≤ 100000) ∧ Φ .non ([(r, rowO (turnE row p q))] ++ R)
def C_turn_equal (cl : Cl) : Ct := CtOf (S_turn_equal cl)
def rising (ms : List Int) (row : List Nat) (e : Nat) : Nat → Nat → Log → Nat × Log
  | 0, p, l => (p, l)
  | f + 1, p, l => if p < e then
      if lessN ms (row.getD p 0) (row.getD (p - 1) 0) then (p, l ++ [(row.getD p 0, row.getD (p - 1) 0, true)])
      else rising ms row e f (p + 1) (l ++ [(row.getD p 0, row.getD (p - 1) 0, false)])
    else (p, l)
def S_rising_end (cl : Cl) : Sc := fun ds F R Φ => ∃ (r h mk la : Addr) (row : List Nat) (ms : List Int) (lg : Log) (p e : Nat), ds = [.ref r, .int p, .int e, .ref h] ∧ F = (r, rowO row) :: honF cl h mk la ms lg ∧
  (1 ≤ p ∧ e ≤ row.length ∧ Row ms row ∧ (rising ms row e (e - p) p lg).2.length ≤ 1000000) ∧
  Φ (.int (rising ms row e (e - p) p lg).1) ((r, rowO row) :: honF cl h mk la ms (rising ms row e (e - p) p lg).2 ++ R)
def C_rising_end (cl : Cl) : Ct := CtOf (S_rising_end cl)
def falling (ms : List Int) (e : Nat) : Nat → Nat → Nat → List Nat → Log → Nat × List Nat × Log
  | 0, p, q, row, l => (p, turnE row p q, l)
  | f + 1, p, q, row, l => if p < e then
      if lessN ms (row.getD p 0) (row.getD (p - 1) 0) then falling ms e f (p + 1) 0 (turnE row p q) (l ++ [(row.getD p 0, row.getD (p - 1) 0, true)])
      else if lessN ms (row.getD (p - 1) 0) (row.getD p 0) then (p, turnE row p q, (l ++ [(row.getD p 0, row.getD (p - 1) 0, false)]) ++ [(row.getD (p - 1) 0, row.getD p 0, true)])
      else falling ms e f (p + 1) (q + 1) row ((l ++ [(row.getD p 0, row.getD (p - 1) 0, false)]) ++ [(row.getD (p - 1) 0, row.getD p 0, false)])
    else (p, turnE row p q, l)
def S_falling_end (cl : Cl) : Sc := fun ds F R Φ => ∃ (r h mk la : Addr) (row : List Nat) (ms : List Int) (lg : Log) (p e : Nat), ds = [.ref r, .int p, .int e, .ref h] ∧ F = (r, rowO row) :: honF cl h mk la ms lg ∧
  (1 ≤ p ∧ p ≤ row.length ∧ e ≤ row.length ∧ row.length ≤ 100000 ∧ Row ms row ∧ (falling ms e (e - p) p 0 row lg).2.2.length ≤ 1000000) ∧
  Φ (.int (falling ms e (e - p) p 0 row lg).1) ((r, rowO (falling ms e (e - p) p 0 row lg).2.1) :: honF cl h mk la ms (falling ms e (e - p) p 0 row lg).2.2 ++ R)
def C_falling_end (cl : Cl) : Ct := CtOf (S_falling_end cl)
/-- what find_run does once it has seen where the row ends to rise -/
def runOn (ms : List Int) (e s p : Nat) (row : List Nat) (l : Log) : Nat × List Nat × Log :=
  ((rising ms (turnN (falling ms e (e - (p + 1)) (p + 1) 0 row l).2.1 s (falling ms e (e - (p + 1)) (p + 1) 0 row l).1) e (e - (falling ms e (e - (p + 1)) (p + 1) 0 row l).1) (falling ms e (e - (p + 1)) (p + 1) 0 row l).1 (falling ms e (e - (p + 1)) (p + 1) 0 row l).2.2).1 - s,
   turnN (falling ms e (e - (p + 1)) (p + 1) 0 row l).2.1 s (falling ms e (e - (p + 1)) (p + 1) 0 row l).1,
   (rising ms (turnN (falling ms e (e - (p + 1)) (p + 1) 0 row l).2.1 s (falling ms e (e - (p + 1)) (p + 1) 0 row l).1) e (e - (falling ms e (e - (p + 1)) (p + 1) 0 row l).1) (falling ms e (e - (p + 1)) (p + 1) 0 row l).1 (falling ms e (e - (p + 1)) (p + 1) 0 row l).2.2).2)
def runAt (ms : List Int) (e s p : Nat) (row : List Nat) (l : Log) : Nat × List Nat × Log :=
  if p = e then (p - s, row, l)
  else if 1 < p - s then
    if lessN ms (row.getD s 0) (row.getD (p - 1) 0) then (p - s, row, l ++ [(row.getD s 0, row.getD (p - 1) 0, true)])
    else runOn ms e s p (turnN row s p) (l ++ [(row.getD s 0, row.getD (p - 1) 0, false)])
  else runOn ms e s p row l
def findRun (ms : List Int) (row : List Nat) (s e : Nat) (l : Log) : Nat × List Nat × Log :=
  runAt ms e s (rising ms row e (e - (s + 1)) (s + 1) l).1 row (rising ms row e (e - (s + 1)) (s + 1) l).2
def S_find_run (cl : Cl) : Sc := fun ds F R Φ => ∃ (r h mk la : Addr) (row : List Nat) (ms : List Int) (lg : Log) (s e : Nat), ds = [.ref r, .int s, .int e, .ref h] ∧ F = (r, rowO row) :: honF cl h mk la ms lg ∧
  (s < e ∧ e ≤ row.length ∧ row.length ≤ 100000 ∧ Row ms row ∧ (findRun ms row s e lg).2.2.length ≤ 1000000) ∧
  Φ (.int (findRun ms row s e lg).1) ((r, rowO (findRun ms row s e lg).2.1) :: honF cl h mk la ms (findRun ms row s e lg).2.2 ++ R)
def C_find_run (cl : Cl) : Ct := CtOf (S_find_run cl)
/-! facts of the mirrors -/
theorem turnN_length {row : List Nat} {i j : Nat} (h1 : i ≤ j) (h2 : j ≤ row.length) : (turnN row i j).length = row.length := by
  unfold turnN
  simp only [List.length_append, List.length_take, List.length_reverse, List.length_drop]
  omega
theorem turnN_mem {row : List Nat} {i j x : Nat} (h : x ∈ turnN row i j) : x ∈ row := by
  unfold turnN at h
  rcases List.mem_append.mp h with h | h
  · rcases List.mem_append.mp h with h | h
    · exact List.mem_of_mem_take h
    · exact List.mem_of_mem_drop (List.mem_of_mem_take (List.mem_reverse.mp h))
  · exact List.mem_of_mem_drop h
theorem Row.turn {ms : List Int} {row : List Nat} (h : Row ms row) (i j : Nat) : Row ms (turnN row i j) := fun x hx => h x (turnN_mem hx)
theorem Row.turnE {ms : List Int} {row : List Nat} (h : Row ms row) (p q : Nat) : Row ms (turnE row p q) := by
  unfold DL.turnE
  split
  · exact h.turn _ _
  · exact h
theorem turnE_length {row : List Nat} {p q : Nat} (h1 : p ≤ row.length) : (turnE row p q).length = row.length := by
  unfold turnE
  split
  · exact turnN_length (by omega) h1
  · rfl
theorem Row.get {ms : List Int} {row : List Nat} (h : Row ms row) {p : Nat} (hp : p < row.length) : row.getD p 0 < ms.length := by
  have : row.getD p 0 = row[p] := by simp [List.getD, List.getElem?_eq_getElem hp]
  rw [this]
  exact h _ (List.getElem_mem hp)
theorem rising_grow (ms : List Int) (row : List Nat) (e : Nat) : ∀ f p l, l.length ≤ (rising ms row e f p l).2.length
  | 0, p, l => Nat.le_refl _
  | f + 1, p, l => by
    unfold rising
    split
    · split
      · simp
      · have := rising_grow ms row e f (p + 1) (l ++ [(row.getD p 0, row.getD (p - 1) 0, false)])
        rw [List.length_append] at this
        simp at this ⊢
        omega
    · exact Nat.le_refl _
theorem rising_at (ms : List Int) (row : List Nat) (e : Nat) : ∀ f p l, p ≤ (rising ms row e f p l).1 ∧ (p ≤ e → (rising ms row e f p l).1 ≤ e)
  | 0, p, l => ⟨Nat.le_refl _, fun h => h⟩
  | f + 1, p, l => by
    unfold rising
    split
    · split
      · exact ⟨Nat.le_refl _, fun h => h⟩
      · have := rising_at ms row e f (p + 1) (l ++ [(row.getD p 0, row.getD (p - 1) 0, false)])
        exact ⟨by omega, fun h => this.2 (by omega)⟩
    · exact ⟨Nat.le_refl _, fun h => h⟩
theorem falling_grow (ms : List Int) (e : Nat) : ∀ f p q row l, l.length ≤ (falling ms e f p q row l).2.2.length
  | 0, p, q, row, l => Nat.le_refl _
  | f + 1, p, q, row, l => by
    unfold falling
    split
    · split
      · have := falling_grow ms e f (p + 1) 0 (turnE row p q) (l ++ [(row.getD p 0, row.getD (p - 1) 0, true)])
        rw [List.length_append] at this
        simp at this ⊢
        omega
      · split
        · simp
        · have := falling_grow ms e f (p + 1) (q + 1) row ((l ++ [(row.getD p 0, row.getD (p - 1) 0, false)]) ++ [(row.getD (p - 1) 0, row.getD p 0, false)])
          rw [List.length_append, List.length_append] at this
          simp at this ⊢
          omega
    · exact Nat.le_refl _
theorem falling_at (ms : List Int) (e : Nat) : ∀ f p q row l, p ≤ (falling ms e f p q row l).1 ∧ (p ≤ e → (falling ms e f p q row l).1 ≤ e)
  | 0, p, q, row, l => ⟨Nat.le_refl _, fun h => h⟩
  | f + 1, p, q, row, l => by
    unfold falling
    split
    · split
      · have := falling_at ms e f (p + 1) 0 (turnE row p q) (l ++ [(row.getD p 0, row.getD (p - 1) 0, true)])
        exact ⟨by omega, fun h => this.2 (by omega)⟩
      · split
        · exact ⟨Nat.le_refl _, fun h => h⟩
        · have := falling_at ms e f (p + 1) (q + 1) row ((l ++ [(row.getD p 0, row.getD (p - 1) 0, false)]) ++ [(row.getD (p - 1) 0, row.getD p 0, false)])
          exact ⟨by omega, fun h => this.2 (by omega)⟩
    · exact ⟨Nat.le_refl _, fun h => h⟩
theorem falling_row (ms : List Int) (e : Nat) : ∀ f p q row l, p ≤ row.length → e ≤ row.length → (falling ms e f p q row l).2.1.length = row.length
  | 0, p, q, row, l, h, _ => turnE_length h
  | f + 1, p, q, row, l, h, he => by
    unfold falling
    split
    · split
      · rw [falling_row ms e f (p + 1) 0 _ _ (by rw [turnE_length h]; omega) (by rw [turnE_length h]; omega), turnE_length h]
      · split
        · exact turnE_length h
        · exact falling_row ms e f (p + 1) (q + 1) _ _ (by omega) he
    · exact turnE_length h
theorem Row.falling {ms : List Int} (e : Nat) : ∀ f p q row l, Row ms row → Row ms (falling ms e f p q row l).2.1
  | 0, p, q, row, l, h => h.turnE _ _
  | f + 1, p, q, row, l, h => by
    unfold DL.falling
    split
    · split
      · exact Row.falling e f _ _ _ _ (h.turnE _ _)
      · split
        · exact h.turnE _ _
        · exact Row.falling e f _ _ _ _ h
    · exact h.turnE _ _
end DL

namespace DL
open PySem PySem.Spec PyProof.Rows L2

def t_Honest___init__ (cl : Cl) : TS' :=
  tAsg' (tTup' (tCons' (tCB' fList (tCons' (tVar' 1) (tNil'))) (tCons' (tLst' (tNil')) (tNil')))) (gTup' 2 (gCons' (gFld' cl.Honest 0 (tVar' 0)) (gCons' (gFld' cl.Honest 1 (tVar' 0)) (gNil'))))
-- self keys
def t_Honest_less (cl : Cl) : TS' :=
  tSeq' (tAsg' (tBin' fLt (tBin' fIx (tFld' cl.Honest 0 (tVar' 0)) (tVar' 1)) (tBin' fIx (tFld' cl.Honest 0 (tVar' 0)) (tVar' 2))) (gName' 3))
  (tSeq' (tDrop' (tLM' fAppend (tFld' cl.Honest 1 (tVar' 0)) (tCons' (tTup' (tCons' (tTup' (tCons' (tVar' 1) (tCons' (tVar' 2) (tNil')))) (tCons' (tVar' 3) (tNil')))) (tNil'))))
  (tRet' (tVar' 3)))
-- self one other is_less
def t_is_integer (cl : Cl) : TS' :=
  tRet' (tAndV' (tIsi' .it (tVar' 0)) (tNotV' (tIsi' .bl (tVar' 0))))
-- value
def t_is_between (cl : Cl) : TS' :=
  tRet' (tAndV' (tCall' (C_is_integer cl) [] (tCons' (tVar' 0) (tNil'))) (tChain' fLe fLe (tVar' 1) (tVar' 0) (tVar' 2)))
-- value low high
def t_require_keys (cl : Cl) : TS' :=
  tSeq' (tIfS' (tOr' (tNot' (tTru' (tIsi2' .ls .tp (tVar' 0)))) (tTst' (tBin' fGt (tCB' fLen (tCons' (tVar' 0) (tNil'))) (tVar' 1)))) (tNever') (tNext'))
  (tFor' (iEnumA' (tCons' (tVar' 0) (tNil'))) (gTup' 2 (gCons' (gName' 2) (gCons' (gName' 3) (gNil')))) (tIfS' (tNot' (tTru' (tCall' (C_is_integer cl) [] (tCons' (tVar' 3) (tNil'))))) (tNever') (tNext')))
-- keys most index key
def t_require_bool (cl : Cl) : TS' :=
  tIfS' (tNot' (tTru' (tIsi' .bl (tVar' 1)))) (tNever') (tNext')
-- name value
def t_least_of (cl : Cl) : TS' :=
  tSeq' (tAsg' (tC' (.int 0)) (gName' 1))
  (tSeq' (tWhile' (tTst' (tBin' fGe (tVar' 0) (tC' (.int 64)))) (tSeq' (tAsg' (tOrV' (tVar' 1) (tBin' fBand (tVar' 0) (tC' (.int 1)))) (gName' 1))
  (tAsg' (tBin' fShr (tVar' 0) (tC' (.int 1))) (gName' 0))))
  (tRet' (tBin' fAdd (tVar' 0) (tVar' 1))))
-- many is_odd
def t_turn_about (cl : Cl) : TS' :=
  tAsg' (tRevL' (tSl' (tVar' 0) (tPart' (tVar' 1)) (tPart' (tVar' 2)))) (gSlc' (tVar' 0) (tVar' 1) (tVar' 2))
-- row start end
def t_turn_equal (cl : Cl) : TS' :=
  tIfS' (tTst' (tBin' fGt (tVar' 2) (tC' (.int 0)))) (tDrop' (tCall' (C_turn_about cl) [] (tCons' (tVar' 0) (tCons' (tBin' fSub (tBin' fSub (tVar' 1) (tVar' 2)) (tC' (.int 1))) (tCons' (tVar' 1) (tNil')))))) (tNext')
-- row place equal
def t_rising_end (cl : Cl) : TS' :=
  tSeq' (tWhile' (tAnd' (tTst' (tBin' fLt (tVar' 1) (tVar' 2))) (tNot' (tTru' (tMeth' cl.Honest (C_Honest_less cl) [] (tVar' 3) (tCons' (tBin' fIx (tVar' 0) (tVar' 1)) (tCons' (tBin' fIx (tVar' 0) (tBin' fSub (tVar' 1) (tC' (.int 1)))) (tNil'))))))) (tAug' 1 (tC' (.int 1)) (fI fun i j => .int (i + j))))
  (tRet' (tVar' 1))
-- row place end asker
def t_falling_end (cl : Cl) : TS' :=
  tSeq' (tAsg' (tC' (.int 0)) (gName' 4))
  (tSeq' (tWhile' (tTst' (tBin' fLt (tVar' 1) (tVar' 2))) (tSeq' (tIfS' (tTru' (tMeth' cl.Honest (C_Honest_less cl) [] (tVar' 3) (tCons' (tBin' fIx (tVar' 0) (tVar' 1)) (tCons' (tBin' fIx (tVar' 0) (tBin' fSub (tVar' 1) (tC' (.int 1)))) (tNil'))))) (tSeq' (tDrop' (tCall' (C_turn_equal cl) [] (tCons' (tVar' 0) (tCons' (tVar' 1) (tCons' (tVar' 4) (tNil'))))))
  (tAsg' (tC' (.int 0)) (gName' 4))) (tIfS' (tTru' (tMeth' cl.Honest (C_Honest_less cl) [] (tVar' 3) (tCons' (tBin' fIx (tVar' 0) (tBin' fSub (tVar' 1) (tC' (.int 1)))) (tCons' (tBin' fIx (tVar' 0) (tVar' 1)) (tNil'))))) (tBreak') (tAug' 4 (tC' (.int 1)) (fI fun i j => .int (i + j)))))
  (tAug' 1 (tC' (.int 1)) (fI fun i j => .int (i + j)))))
  (tSeq' (tDrop' (tCall' (C_turn_equal cl) [] (tCons' (tVar' 0) (tCons' (tVar' 1) (tCons' (tVar' 4) (tNil'))))))
  (tRet' (tVar' 1))))
-- row place end asker equal
def t_find_run (cl : Cl) : TS' :=
  tSeq' (tAsg' (tCall' (C_rising_end cl) [] (tCons' (tVar' 0) (tCons' (tBin' fAdd (tVar' 1) (tC' (.int 1))) (tCons' (tVar' 2) (tCons' (tVar' 3) (tNil')))))) (gName' 4))
  (tSeq' (tIfS' (tTst' (tBin' fEq (tVar' 4) (tVar' 2))) (tRet' (tBin' fSub (tVar' 4) (tVar' 1))) (tNext'))
  (tSeq' (tIfS' (tTst' (tBin' fGt (tBin' fSub (tVar' 4) (tVar' 1)) (tC' (.int 1)))) (tSeq' (tIfS' (tTru' (tMeth' cl.Honest (C_Honest_less cl) [] (tVar' 3) (tCons' (tBin' fIx (tVar' 0) (tVar' 1)) (tCons' (tBin' fIx (tVar' 0) (tBin' fSub (tVar' 4) (tC' (.int 1)))) (tNil'))))) (tRet' (tBin' fSub (tVar' 4) (tVar' 1))) (tNext'))
  (tDrop' (tCall' (C_turn_about cl) [] (tCons' (tVar' 0) (tCons' (tVar' 1) (tCons' (tVar' 4) (tNil'))))))) (tNext'))
  (tSeq' (tAsg' (tCall' (C_falling_end cl) [] (tCons' (tVar' 0) (tCons' (tBin' fAdd (tVar' 4) (tC' (.int 1))) (tCons' (tVar' 2) (tCons' (tVar' 3) (tNil')))))) (gName' 4))
  (tSeq' (tDrop' (tCall' (C_turn_about cl) [] (tCons' (tVar' 0) (tCons' (tVar' 1) (tCons' (tVar' 4) (tNil'))))))
  (tRet' (tBin' fSub (tCall' (C_rising_end cl) [] (tCons' (tVar' 0) (tCons' (tVar' 4) (tCons' (tVar' 2) (tCons' (tVar' 3) (tNil')))))) (tVar' 1)))))))
-- row start end asker place
end DL

namespace DL
open PySem PySem.Spec PyProof.Rows L2
local macro_rules | `(tactic| walk_at "has") => `(tactic| first | exact Has.here | (apply Has.there; walk_at "has"))
local macro_rules | `(tactic| walk_at "hasl") => `(tactic| first | (refine Or.inl ?_; walk_at "has") | (refine Or.inr ?_; walk_at "has"))
local macro_rules | `(tactic| walk_at "sel") => `(tactic| first | exact Sel.here | (apply Sel.there; walk_at "sel"))
local macro_rules | `(tactic| walk_at "chg") => `(tactic| first | exact Chg.here | (apply Chg.there; walk_at "chg"))
local macro_rules | `(tactic| walk_at "pull") => `(tactic| first | exact Pull.nil | (apply Pull.cons; (walk_at "sel"); exact rfl; walk_at "pull"))
local macro_rules | `(tactic| walk_at "cov") => `(tactic| first | exact Cov.refl | (apply Cov.take; (walk_at "sel"); (first | exact rfl | assumption); walk_at "cov") | (apply Cov.take; (walk_at "sel"); rotate_left; walk_at "cov") | (refine Cov.drop ?_; walk_at "cov"))
local macro_rules | `(tactic| walk_at "sub") => `(tactic| first | exact Sub.nil | (refine Sub.same (by first | rfl | assumption) ?_; walk_at "sub") | (refine Sub.any ?_; walk_at "sub") | (refine Sub.same ?_ ?_; rotate_left; walk_at "sub"))
local macro_rules | `(tactic| walk_at "side") => `(tactic| first | assumption | rfl | omega | (refine mulOk_r ?_ ?_ <;> first | omega | decide) | (refine mulOk_l ?_ ?_ <;> first | omega | decide) | (refine divOk_of ?_ ?_ <;> first | omega | decide) | (refine ⟨?_, ?_⟩ <;> walk_at "side") | (simp <;> omega) | decide)
local macro_rules | `(tactic| walk_at "br") => `(tactic| first | (with_reducible first | refine Br.t ?_ | refine Br.f ?_ | (refine Br.dec ?_ ?_ <;> intro _) | (refine Br.ndec ?_ ?_ <;> intro _)) | refine Br.t ?_ | refine Br.f ?_ | (with_reducible refine Br.mk ?_ ?_ <;> intro _))
local macro_rules | `(tactic| walk_at "st") => `(tactic| ((try (conv => whnf)); first
  | walk_at "br"
  | with_reducible (intro _)
  | (refine ⟨_, (by walk_at "has" : Has _ _ _), ?_⟩)
  | (refine ⟨_, (by walk_at "hasl" : HasL _ _ _), ?_⟩)
  | (refine ⟨_, _, (by walk_at "chg" : Chg _ _ _ _ _), ?_⟩)
  | (refine ⟨_, _, _, (by walk_at "chg" : Chg _ _ _ _ _), (by first | rfl | assumption : ixN _ _ = some _), ?_⟩)
  | (refine ⟨_, _, (by walk_at "sel" : Sel _ _ _ _), ?_⟩)
  | (refine ⟨_, (by first | rfl | assumption : atI _ _ = some _), ?_⟩)
  | (refine And.intro (by walk_at "side") ?_)))
local macro_rules | `(tactic| walk_at "st2") => `(tactic| first | walk_at "st" | ((try (conv => whnf)); with_reducible refine And.intro ?_ ?_; rotate_left))
local macro_rules | `(tactic| walk_at "go") => `(tactic| first | ((try (conv => whnf)); walk_at "br" <;> walk_at "go") | (walk_at "st"; walk_at "go") | (conv => whnf) | skip)
/-! calls -/
theorem call_less {cl : Cl} {L R : LL} {Φ : DK} {h mk la : Addr} {ms : List Int} {lg : Log} {a b : Int} (i j : Nat) (p : Pull L (honF cl h mk la ms lg) R) (ei : a = i) (ej : b = j) (h1 : i < ms.length) (h2 : j < ms.length) (h3 : lg.length ≤ 1000000)
    (k : Φ (.bl (lessN ms i j)) (honF cl h mk la ms (lg ++ [(i, j, lessN ms i j)]) ++ R)) : CtOf (S_less cl) [.ref h, .int a, .int b] L Φ := by
  subst ei ej
  exact ⟨_, _, p, h, mk, la, ms, lg, i, j, rfl, rfl, ⟨h1, h2, h3⟩, k⟩
theorem call_turn_about {cl : Cl} {L R : LL} {Φ : DK} {r : Addr} {row : List Nat} {a b : Int} (i j : Nat) (p : Pull L [(r, rowO row)] R) (ei : a = i) (ej : b = j) (h1 : i ≤ j) (h2 : j ≤ row.length) (h3 : row.length ≤ 100000)
    (k : Φ .non ([(r, rowO (turnN row i j))] ++ R)) : CtOf (S_turn_about cl) [.ref r, .int a, .int b] L Φ := by
  subst ei ej
  exact ⟨_, _, p, r, row, i, j, rfl, rfl, ⟨h1, h2, h3⟩, k⟩
theorem call_turn_equal {cl : Cl} {L R : LL} {Φ : DK} {r : Addr} {row : List Nat} {a b : Int} (i j : Nat) (p : Pull L [(r, rowO row)] R) (ei : a = i) (ej : b = j) (h1 : 0 < j → j + 1 ≤ i) (h2 : i ≤ row.length) (h3 : row.length ≤ 100000)
    (k : Φ .non ([(r, rowO (turnE row i j))] ++ R)) : CtOf (S_turn_equal cl) [.ref r, .int a, .int b] L Φ := by
  subst ei ej
  exact ⟨_, _, p, r, row, i, j, rfl, rfl, ⟨h1, h2, h3⟩, k⟩
/-! readings -/
theorem rd_Honest_init (cl : Cl) (ds : List D) (F R : LL) (Φ : DK) (h : S_Honest_init cl ds F R Φ) : t_Honest___init__ cl (endD Φ) (startD 2 ds) (F ++ R) := by
  obtain ⟨a, q, ms, rfl, rfl, h⟩ := h
  walk_at "go"
  rename_i mk la
  refine Ret.mk _ ?_ (h mk la)
  walk_at "cov"
theorem rd_less (cl : Cl) (ds : List D) (F R : LL) (Φ : DK) (h : S_less cl ds F R Φ) : t_Honest_less cl (endD Φ) (startD 4 ds) (F ++ R) := by
  obtain ⟨a, mk, la, ms, lg, i, j, rfl, rfl, ⟨h1, h2, h3⟩, h⟩ := h
  walk_at "go"
  refine ⟨_, atI_int i rfl h1, ?_⟩
  walk_at "go"
  refine ⟨_, atI_int j rfl h2, ?_⟩
  walk_at "go"
  refine Ret.mk _ ?_ h
  walk_at "cov"
  simp [lgD, lessN, keyN]
theorem rd_is_integer (cl : Cl) (ds : List D) (F R : LL) (Φ : DK) (h : S_is_integer cl ds F R Φ) : t_is_integer cl (endD Φ) (startD 1 ds) (F ++ R) := by
  obtain ⟨i, rfl, rfl, h⟩ := h
  walk_at "go"
  exact Ret.mk _ .refl h
theorem rd_is_between (cl : Cl) (ds : List D) (F R : LL) (Φ : DK) (h : S_is_between cl ds F R Φ) : t_is_between cl (endD Φ) (startD 3 ds) (F ++ R) := by
  obtain ⟨i, lo, hi, rfl, rfl, h⟩ := h
  walk_at "go"
  refine CtOf.mk [] _ .nil ⟨_, rfl, rfl, ?_⟩
  walk_at "go"
  · refine Ret.mk _ .refl ?_
    simpa [*] using h
  · refine Ret.mk _ .refl ?_
    have e : decide (lo ≤ i ∧ i ≤ hi) = false := by simp [*]
    rw [e] at h
    exact h
theorem rd_require_keys (cl : Cl) (ds : List D) (F R : LL) (Φ : DK) (h : S_require_keys cl ds F R Φ) : t_require_keys cl (endD Φ) (startD 4 ds) (F ++ R) := by
  obtain ⟨q, ms, most, rfl, rfl, hm, h⟩ := h
  walk_at "go"
  · simp at *
    omega
  refine ForI.inv (α := Unit) (fun _ _ => [some (.ref q), some (.int most), none, none]) (fun _ _ => [(q, intsO ms)] ++ R) (fun _ _ => True) () (by walk_at "sub") .refl trivial ?_ ?_
  · intro i x d hd _
    obtain ⟨e, he, rfl⟩ := enumD_get hd
    rw [List.getElem?_map] at he
    obtain ⟨k, _, rfl⟩ := Option.map_eq_some_iff.mp he
    refine ⟨by walk_at "hasl", ?_⟩
    walk_at "go"
    refine CtOf.mk [] _ .nil ⟨_, rfl, rfl, ?_⟩
    walk_at "go"
    exact Nx1.mk () (by walk_at "sub") .refl trivial
  · intro x _
    refine ⟨by walk_at "hasl", ?_⟩
    exact Ret.mk _ .refl h
theorem rd_require_bool (cl : Cl) (ds : List D) (F R : LL) (Φ : DK) (h : S_require_bool cl ds F R Φ) : t_require_bool cl (endD Φ) (startD 2 ds) (F ++ R) := by
  obtain ⟨x, b, rfl, rfl, h⟩ := h
  walk_at "go"
  exact Ret.mk _ .refl h
theorem rd_turn_about (cl : Cl) (ds : List D) (F R : LL) (Φ : DK) (h : S_turn_about cl ds F R Φ) : t_turn_about cl (endD Φ) (startD 3 ds) (F ++ R) := by
  obtain ⟨r, row, i, j, rfl, rfl, ⟨h1, h2, h3⟩, h⟩ := h
  walk_at "go"
  have e : cutD (row.map dn) (some (i : Int)) (some (j : Int)) = ((row.map dn).drop i).take (j - i) := cutD_nat i j rfl rfl h1 (by simpa using h2)
  rw [e]
  refine ⟨?_, ?_⟩
  · simp
    omega
  refine Ret.mk _ ?_ h
  walk_at "cov"
  simp [turnN]
theorem rd_turn_equal (cl : Cl) (ds : List D) (F R : LL) (Φ : DK) (h : S_turn_equal cl ds F R Φ) : t_turn_equal cl (endD Φ) (startD 3 ds) (F ++ R) := by
  obtain ⟨r, row, p, q, rfl, rfl, ⟨h1, h2, h3⟩, h⟩ := h
  walk_at "go"
  · refine call_turn_about (p - q - 1) p (by walk_at "pull") (by omega) rfl (by omega) h2 h3 ?_
    walk_at "go"
    refine Ret.mk _ .refl ?_
    unfold turnE at h
    rw [if_pos (by omega)] at h
    exact h
  · refine Ret.mk _ .refl ?_
    unfold turnE at h
    rw [if_neg (by omega)] at h
    exact h
theorem bitAnd_one (m : Nat) : Builtin.bitAnd (m : Int) 1 = ((m % 2 : Nat) : Int) := by
  rw [bitAnd_pp (by omega) (by decide), Int.toNat_natCast]
  show ((m &&& 1 : Nat) : Int) = _
  rw [Nat.and_one_is_mod]
theorem rd_least_of (cl : Cl) (ds : List D) (F R : LL) (Φ : DK) (h : S_least_of cl ds F R Φ) : t_least_of cl (endD Φ) (startD 2 ds) (F ++ R) := by
  obtain ⟨m0, rfl, rfl, h⟩ := h
  walk_at "go"
  refine WhileI.inv (α := Nat × Nat × Nat) (fun x => [some (.int x.2.1), some (.int x.2.2)]) (fun _ => R) (fun x => leastGo x.1 x.2.1 x.2.2 = leastN m0 ∧ x.2.1 ≤ x.1) (fun x => x.2.1) (m0, m0, 0) (by walk_at "sub") .refl ⟨rfl, Nat.le_refl _⟩ ?_
  rintro ⟨f, m, o⟩ ⟨h1, h2⟩
  dsimp only at h1 h2 ⊢
  have hf : 64 ≤ m → ∃ f', f = f' + 1 := fun z => ⟨f - 1, by omega⟩
  walk_at "go"
  · rename_i g1 g2
    obtain ⟨f', rfl⟩ := hf (by omega)
    unfold leastGo at h1
    have g3 : o ≠ 0 := by simpa using g2
    rw [if_pos (by omega), if_neg g3] at h1
    refine Nxt.mk (f', m / 2, o) ?_ .refl ⟨h1, by dsimp only; omega⟩ (by show m / 2 < m; omega)
    walk_at "sub"
  · rename_i g1 g2
    obtain ⟨f', rfl⟩ := hf (by omega)
    unfold leastGo at h1
    have g3 : o = 0 := by simpa using g2
    rw [if_pos (by omega), if_pos g3] at h1
    refine Nxt.mk (f', m / 2, m % 2) ?_ .refl ⟨h1, by dsimp only; omega⟩ (by show m / 2 < m; omega)
    walk_at "sub"
    simpa using bitAnd_one m
  · rename_i g1
    refine Ret.mk _ .refl ?_
    rw [← h1] at h
    cases f with
    | zero =>
      have : m = 0 := by omega
      unfold leastGo at h
      simpa using h
    | succ f =>
      unfold leastGo at h
      rw [if_neg (by omega)] at h
      simpa using h
theorem rd_rising_end (cl : Cl) (ds : List D) (F R : LL) (Φ : DK) (h : S_rising_end cl ds F R Φ) : t_rising_end cl (endD Φ) (startD 4 ds) (F ++ R) := by
  obtain ⟨r, a, mk, la, row, ms, lg0, p0, e, rfl, rfl, ⟨h1, h2, h3, h4⟩, h⟩ := h
  walk_at "go"
  generalize he : rising ms row e (e - p0) p0 lg0 = res at h h4
  refine WhileI.inv (α := Nat × Log) (fun x => [some (.ref r), some (.int x.1), some (.int e), some (.ref a)]) (fun x => (r, rowO row) :: honF cl a mk la ms x.2 ++ R) (fun x => 1 ≤ x.1 ∧ rising ms row e (e - x.1) x.1 x.2 = res) (fun x => e - x.1) (p0, lg0) (by walk_at "sub") .refl ⟨h1, he⟩ ?_
  rintro ⟨p, lg⟩ ⟨g1, g2⟩
  dsimp only at g1 g2 ⊢
  have gl := rising_grow ms row e (e - p) p lg
  rw [g2] at gl
  walk_at "go"
  · rename_i hp
    refine ⟨_, atI_dn p rfl (by omega), ?_⟩
    walk_at "go"
    refine ⟨_, atI_dn (p - 1) (by omega) (by omega), ?_⟩
    walk_at "go"
    have ef : e - p = (e - (p + 1)) + 1 := by omega
    rw [ef] at g2
    unfold rising at g2
    rw [if_pos (by omega)] at g2
    refine call_less _ _ (by walk_at "pull") rfl rfl (h3.get (by omega)) (h3.get (by omega)) (by omega) ?_
    cases hl : lessN ms (row.getD p 0) (row.getD (p - 1) 0) with
    | true =>
      rw [hl, if_pos rfl] at g2
      walk_at "go"
      rw [← g2] at h
      refine Ret.mk _ ?_ h
      walk_at "cov"
    | false =>
      rw [hl, if_neg Bool.false_ne_true] at g2
      walk_at "go"
      refine Nxt.mk (p + 1, _) (by walk_at "sub") ?_ ⟨by omega, g2⟩ (by show e - (p + 1) < e - p; omega)
      walk_at "cov"
  · rename_i hp
    rw [← g2, show e - p = 0 by omega] at h
    refine Ret.mk _ ?_ h
    walk_at "cov"
end DL

namespace DL
open PySem PySem.Spec PyProof.Rows L2
local macro_rules | `(tactic| walk_at "has") => `(tactic| first | exact Has.here | (apply Has.there; walk_at "has"))
local macro_rules | `(tactic| walk_at "hasl") => `(tactic| first | (refine Or.inl ?_; walk_at "has") | (refine Or.inr ?_; walk_at "has"))
local macro_rules | `(tactic| walk_at "sel") => `(tactic| first | exact Sel.here | (apply Sel.there; walk_at "sel"))
local macro_rules | `(tactic| walk_at "chg") => `(tactic| first | exact Chg.here | (apply Chg.there; walk_at "chg"))
local macro_rules | `(tactic| walk_at "pull") => `(tactic| first | exact Pull.nil | (apply Pull.cons; (walk_at "sel"); exact rfl; walk_at "pull"))
local macro_rules | `(tactic| walk_at "cov") => `(tactic| first | exact Cov.refl | (apply Cov.take; (walk_at "sel"); (first | exact rfl | assumption); walk_at "cov") | (apply Cov.take; (walk_at "sel"); rotate_left; walk_at "cov") | (refine Cov.drop ?_; walk_at "cov"))
local macro_rules | `(tactic| walk_at "sub") => `(tactic| first | exact Sub.nil | (refine Sub.same (by first | rfl | assumption) ?_; walk_at "sub") | (refine Sub.any ?_; walk_at "sub") | (refine Sub.same ?_ ?_; rotate_left; walk_at "sub"))
local macro_rules | `(tactic| walk_at "side") => `(tactic| first | assumption | rfl | omega | (refine mulOk_r ?_ ?_ <;> first | omega | decide) | (refine mulOk_l ?_ ?_ <;> first | omega | decide) | (refine divOk_of ?_ ?_ <;> first | omega | decide) | (refine ⟨?_, ?_⟩ <;> walk_at "side") | (simp <;> omega) | decide)
local macro_rules | `(tactic| walk_at "br") => `(tactic| first | (with_reducible first | refine Br.t ?_ | refine Br.f ?_ | (refine Br.dec ?_ ?_ <;> intro _) | (refine Br.ndec ?_ ?_ <;> intro _)) | refine Br.t ?_ | refine Br.f ?_ | (with_reducible refine Br.mk ?_ ?_ <;> intro _))
local macro_rules | `(tactic| walk_at "st") => `(tactic| ((try (conv => whnf)); first
  | walk_at "br"
  | with_reducible (intro _)
  | (refine ⟨_, (by walk_at "has" : Has _ _ _), ?_⟩)
  | (refine ⟨_, (by walk_at "hasl" : HasL _ _ _), ?_⟩)
  | (refine ⟨_, _, (by walk_at "chg" : Chg _ _ _ _ _), ?_⟩)
  | (refine ⟨_, _, _, (by walk_at "chg" : Chg _ _ _ _ _), (by first | rfl | assumption : ixN _ _ = some _), ?_⟩)
  | (refine ⟨_, _, (by walk_at "sel" : Sel _ _ _ _), ?_⟩)
  | (refine ⟨_, (by first | rfl | assumption : atI _ _ = some _), ?_⟩)
  | (refine And.intro (by walk_at "side") ?_)))
local macro_rules | `(tactic| walk_at "st2") => `(tactic| first | walk_at "st" | ((try (conv => whnf)); with_reducible refine And.intro ?_ ?_; rotate_left))
local macro_rules | `(tactic| walk_at "go") => `(tactic| first | ((try (conv => whnf)); walk_at "br" <;> walk_at "go") | (walk_at "st"; walk_at "go") | (conv => whnf) | skip)
theorem call_rising {cl : Cl} {L R : LL} {Φ : DK} {r h mk la : Addr} {row : List Nat} {ms : List Int} {lg : Log} {a b : Int} (p e : Nat) (hp : Pull L ((r, rowO row) :: honF cl h mk la ms lg) R) (ei : a = p) (ej : b = e)
    (h1 : 1 ≤ p) (h2 : e ≤ row.length) (h3 : Row ms row) (h4 : (rising ms row e (e - p) p lg).2.length ≤ 1000000) (k : Φ (.int (rising ms row e (e - p) p lg).1) ((r, rowO row) :: honF cl h mk la ms (rising ms row e (e - p) p lg).2 ++ R)) :
    CtOf (S_rising_end cl) [.ref r, .int a, .int b, .ref h] L Φ := by
  subst ei ej
  exact ⟨_, _, hp, r, h, mk, la, row, ms, lg, p, e, rfl, rfl, ⟨h1, h2, h3, h4⟩, k⟩
theorem call_falling {cl : Cl} {L R : LL} {Φ : DK} {r h mk la : Addr} {row : List Nat} {ms : List Int} {lg : Log} {a b : Int} (p e : Nat) (hp : Pull L ((r, rowO row) :: honF cl h mk la ms lg) R) (ei : a = p) (ej : b = e)
    (h1 : 1 ≤ p) (h1' : p ≤ row.length) (h2 : e ≤ row.length) (hz : row.length ≤ 100000) (h3 : Row ms row) (h4 : (falling ms e (e - p) p 0 row lg).2.2.length ≤ 1000000)
    (k : Φ (.int (falling ms e (e - p) p 0 row lg).1) ((r, rowO (falling ms e (e - p) p 0 row lg).2.1) :: honF cl h mk la ms (falling ms e (e - p) p 0 row lg).2.2 ++ R)) :
    CtOf (S_falling_end cl) [.ref r, .int a, .int b, .ref h] L Φ := by
  subst ei ej
  exact ⟨_, _, hp, r, h, mk, la, row, ms, lg, p, e, rfl, rfl, ⟨h1, h1', h2, hz, h3, h4⟩, k⟩
theorem rd_falling_end (cl : Cl) (ds : List D) (F R : LL) (Φ : DK) (h : S_falling_end cl ds F R Φ) : t_falling_end cl (endD Φ) (startD 5 ds) (F ++ R) := by
  obtain ⟨r, a, mk, la, row0, ms, lg0, p0, e, rfl, rfl, ⟨h1, h1', h2, hz, h3, h4⟩, h⟩ := h
  walk_at "go"
  generalize he : falling ms e (e - p0) p0 0 row0 lg0 = res at h h4
  refine WhileI.inv (α := Nat × Nat × List Nat × Log) (fun x => [some (.ref r), some (.int x.1), some (.int e), some (.ref a), some (.int x.2.1)]) (fun x => (r, rowO x.2.2.1) :: honF cl a mk la ms x.2.2.2 ++ R)
    (fun x => 1 ≤ x.1 ∧ x.2.1 + 1 ≤ x.1 ∧ x.1 ≤ x.2.2.1.length ∧ x.2.2.1.length = row0.length ∧ Row ms x.2.2.1 ∧ falling ms e (e - x.1) x.1 x.2.1 x.2.2.1 x.2.2.2 = res) (fun x => e - x.1) (p0, 0, row0, lg0) (by walk_at "sub") .refl ⟨h1, by dsimp only; omega, h1', rfl, h3, he⟩ ?_
  rintro ⟨p, q, row, lg⟩ ⟨g0, g1, g2, g3, g4, g5⟩
  dsimp only at g0 g1 g2 g3 g4 g5 ⊢
  have gl := falling_grow ms e (e - p) p q row lg
  rw [g5] at gl
  walk_at "go"
  · rename_i hp
    refine ⟨_, atI_dn p rfl (by omega), ?_⟩
    walk_at "go"
    refine ⟨_, atI_dn (p - 1) (by omega) (by omega), ?_⟩
    walk_at "go"
    have ef : e - p = (e - (p + 1)) + 1 := by omega
    rw [ef] at g5
    unfold falling at g5
    rw [if_pos (by omega)] at g5
    refine call_less _ _ (by walk_at "pull") rfl rfl (g4.get (by omega)) (g4.get (by omega)) (by omega) ?_
    cases hl : lessN ms (row.getD p 0) (row.getD (p - 1) 0) with
    | true =>
      rw [hl, if_pos rfl] at g5
      walk_at "go"
      refine call_turn_equal p q (by walk_at "pull") rfl rfl (by omega) g2 (by omega) ?_
      walk_at "go"
      have tl := turnE_length (row := row) (p := p) (q := q) g2
      refine Nxt.mk (p + 1, 0, turnE row p q, _) (by walk_at "sub") ?_ ⟨by dsimp only; omega, by dsimp only; omega, by dsimp only; omega, by dsimp only; omega, g4.turnE _ _, g5⟩ (by show e - (p + 1) < e - p; omega)
      walk_at "cov"
    | false =>
      rw [hl, if_neg Bool.false_ne_true] at g5
      walk_at "go"
      refine ⟨_, atI_dn (p - 1) (by omega) (by omega), ?_⟩
      walk_at "go"
      refine ⟨_, atI_dn p rfl (by omega), ?_⟩
      walk_at "go"
      have gl2 : (lg ++ [(row.getD p 0, row.getD (p - 1) 0, false)]).length ≤ 1000000 := by
        cases hl2 : lessN ms (row.getD (p - 1) 0) (row.getD p 0) with
        | true =>
          rw [hl2, if_pos rfl] at g5
          rw [← g5] at h4
          simp at h4 ⊢
          omega
        | false =>
          rw [hl2, if_neg Bool.false_ne_true] at g5
          have := falling_grow ms e (e - (p + 1)) (p + 1) (q + 1) row ((lg ++ [(row.getD p 0, row.getD (p - 1) 0, false)]) ++ [(row.getD (p - 1) 0, row.getD p 0, false)])
          rw [g5] at this
          simp at this ⊢
          omega
      refine call_less _ _ (by walk_at "pull") rfl rfl (g4.get (by omega)) (g4.get (by omega)) gl2 ?_
      cases hl2 : lessN ms (row.getD (p - 1) 0) (row.getD p 0) with
      | true =>
        rw [hl2, if_pos rfl] at g5
        walk_at "go"
        refine call_turn_equal p q (by walk_at "pull") rfl rfl (by omega) g2 (by omega) ?_
        walk_at "go"
        rw [← g5] at h
        refine Ret.mk _ ?_ h
        walk_at "cov"
      | false =>
        rw [hl2, if_neg Bool.false_ne_true] at g5
        walk_at "go"
        refine Nxt.mk (p + 1, q + 1, row, _) (by walk_at "sub") ?_ ⟨by dsimp only; omega, by dsimp only; omega, by dsimp only; omega, g3, g4, g5⟩ (by show e - (p + 1) < e - p; omega)
        walk_at "cov"
  · rename_i hp
    refine call_turn_equal p q (by walk_at "pull") rfl rfl (by omega) g2 (by omega) ?_
    walk_at "go"
    rw [← g5, show e - p = 0 by omega] at h
    refine Ret.mk _ ?_ h
    walk_at "cov"
theorem rd_find_run (cl : Cl) (ds : List D) (F R : LL) (Φ : DK) (h : S_find_run cl ds F R Φ) : t_find_run cl (endD Φ) (startD 5 ds) (F ++ R) := by
  obtain ⟨r, a, mk, la, row, ms, lg, s, e, rfl, rfl, ⟨h1, h2, hz, h3, h4⟩, h⟩ := h
  walk_at "go"
  unfold findRun at h h4
  have g1 := rising_at ms row e (e - (s + 1)) (s + 1) lg
  have g2 : (rising ms row e (e - (s + 1)) (s + 1) lg).2.length ≤ 1000000 := by
    refine Nat.le_trans ?_ h4
    generalize rising ms row e (e - (s + 1)) (s + 1) lg = z
    unfold runAt runOn
    split
    · exact Nat.le_refl _
    · split
      · split
        · simp
        · refine Nat.le_trans ?_ (rising_grow ..)
          refine Nat.le_trans ?_ (falling_grow ..)
          simp
      · refine Nat.le_trans ?_ (rising_grow ..)
        exact falling_grow ..
  refine call_rising (s + 1) e (by walk_at "pull") (by omega) rfl (by omega) h2 h3 g2 ?_
  generalize rising ms row e (e - (s + 1)) (s + 1) lg = z at *
  obtain ⟨p, lg1⟩ := z
  dsimp only at g1 g2 h h4 ⊢
  unfold runAt at h h4
  have g3 := g1.1
  have g4 := g1.2 (by omega)
  walk_at "go"
  · rename_i hp
    rw [if_pos (by omega)] at h
    refine Ret.int .refl h (by dsimp only; omega)
  · rename_i hp hq
    rw [if_neg (by omega), if_pos (by omega)] at h h4
    refine ⟨_, atI_dn s rfl (by omega), ?_⟩
    walk_at "go"
    refine ⟨_, atI_dn (p - 1) (by omega) (by omega), ?_⟩
    walk_at "go"
    refine call_less _ _ (by walk_at "pull") rfl rfl (h3.get (by omega)) (h3.get (by omega)) g2 ?_
    cases hl : lessN ms (row.getD s 0) (row.getD (p - 1) 0) with
    | true =>
      rw [hl, if_pos rfl] at h h4
      walk_at "go"
      refine Ret.int ?_ h (by dsimp only; omega)
      walk_at "cov"
    | false =>
      rw [hl, if_neg Bool.false_ne_true] at h h4
      walk_at "go"
      refine call_turn_about s p (by walk_at "pull") rfl rfl (by omega) (by omega) hz ?_
      walk_at "go"
      have tl0 := turnN_length (row := row) (i := s) (j := p) (by omega) (by omega)
      unfold runOn at h h4
      have gl0 := falling_row ms e (e - (p + 1)) (p + 1) 0 (turnN row s p) (lg1 ++ [(row.getD s 0, row.getD (p - 1) 0, false)]) (by rw [tl0]; omega) (by rw [tl0]; omega)
      have gr := Row.falling (ms := ms) e (e - (p + 1)) (p + 1) 0 (turnN row s p) (lg1 ++ [(row.getD s 0, row.getD (p - 1) 0, false)]) (h3.turn _ _)
      have ga := falling_at ms e (e - (p + 1)) (p + 1) 0 (turnN row s p) (lg1 ++ [(row.getD s 0, row.getD (p - 1) 0, false)])
      refine call_falling (p + 1) e (by walk_at "pull") (by omega) rfl (by omega) (by rw [tl0]; omega) (by rw [tl0]; omega) (by rw [tl0]; omega) (h3.turn _ _) (Nat.le_trans (rising_grow ..) h4) ?_
      generalize falling ms e (e - (p + 1)) (p + 1) 0 (turnN row s p) (lg1 ++ [(row.getD s 0, row.getD (p - 1) 0, false)]) = z at *
      obtain ⟨p2, row3, lg3⟩ := z
      dsimp only at h h4 gl0 gr ga ⊢
      rw [tl0] at gl0
      have gb := ga.2 (by omega)
      walk_at "go"
      refine call_turn_about s p2 (by walk_at "pull") rfl rfl (by omega) (by omega) (by omega) ?_
      have tl := turnN_length (row := row3) (i := s) (j := p2) (by omega) (by omega)
      walk_at "go"
      refine call_rising p2 e (by walk_at "pull") rfl rfl (by omega) (by omega) (gr.turn _ _) h4 ?_
      have ra := rising_at ms (turnN row3 s p2) e (e - p2) p2 lg3
      walk_at "go"
      refine Ret.int ?_ h (by omega)
      walk_at "cov"
  · rename_i hp hq
    rw [if_neg (by omega), if_neg (by omega)] at h h4
    have tl0 : row.length = row.length := rfl
    unfold runOn at h h4
    have gl0 := falling_row ms e (e - (p + 1)) (p + 1) 0 row lg1 (by rw [tl0]; omega) (by rw [tl0]; omega)
    have gr := Row.falling (ms := ms) e (e - (p + 1)) (p + 1) 0 row lg1 h3
    have ga := falling_at ms e (e - (p + 1)) (p + 1) 0 row lg1
    refine call_falling (p + 1) e (by walk_at "pull") (by omega) rfl (by omega) (by rw [tl0]; omega) (by rw [tl0]; omega) (by rw [tl0]; omega) h3 (Nat.le_trans (rising_grow ..) h4) ?_
    generalize falling ms e (e - (p + 1)) (p + 1) 0 row lg1 = z at *
    obtain ⟨p2, row3, lg3⟩ := z
    dsimp only at h h4 gl0 gr ga ⊢
    rw [tl0] at gl0
    have gb := ga.2 (by omega)
    walk_at "go"
    refine call_turn_about s p2 (by walk_at "pull") rfl rfl (by omega) (by omega) (by omega) ?_
    have tl := turnN_length (row := row3) (i := s) (j := p2) (by omega) (by omega)
    walk_at "go"
    refine call_rising p2 e (by walk_at "pull") rfl rfl (by omega) (by omega) (gr.turn _ _) h4 ?_
    have ra := rising_at ms (turnN row3 s p2) e (e - p2) p2 lg3
    walk_at "go"
    refine Ret.int ?_ h (by omega)
    walk_at "cov"
end DL

/-! k77: contracts of a sort that is one run, of count_of_falling, of the law's defs -/
namespace DL
open PySem PySem.Spec PyProof.Rows L2
def joinF (cl : Cl) (j h al : Addr) : LL := [(j, .ins cl.Joiner [(6, .ref h), (17, .int 7), (29, .tup [.int 0, .int 0]), (30, .ref al)]), (al, .lst [])]
def S_Joiner_init (cl : Cl) : Sc := fun ds F R Φ => ∃ (j h : Addr), ds = [.ref j, .ref h, .int 7] ∧ F = [(j, .ins cl.Joiner [])] ∧ ∀ al, Φ .non (joinF cl j h al ++ R)
def C_Joiner___init__ (cl : Cl) : Ct := CtOf (S_Joiner_init cl)
theorem no_Joiner (cl : Cl) : NonOnly (C_Joiner___init__ cl) := nonly_of fun ds F R Φ ⟨j, h, e1, e2, k⟩ => ⟨j, h, e1, e2, fun al => ⟨rfl, k al⟩⟩
theorem no_Honest (cl : Cl) : NonOnly (C_Honest___init__ cl) := nonly_of fun ds F R Φ ⟨h, q, ms, e1, e2, k⟩ => ⟨h, q, ms, e1, e2, fun mk la => ⟨rfl, k mk la⟩⟩
/-- a Sorting, its row, its stack, its steps -/
def sortF (cl : Cl) (s h r j st sp : Addr) (b : Bool) (row : List Nat) (stk stp : List D) (busy : D) : LL :=
  [(s, .ins cl.Sorting [(4, .ref r), (5, .bl b), (6, .ref h), (7, .ref j), (8, .ref st), (9, .ref sp), (10, busy)]), (r, rowO row), (st, .lst stk), (sp, .lst stp)]
def S_Sorting_init (cl : Cl) : Sc := fun ds F R Φ => ∃ (s h : Addr) (n : Nat), ds = [.ref s, .int n, .bl false, .ref h] ∧ F = [(s, .ins cl.Sorting [])] ∧ n ≤ 2000 ∧ ∀ r j st sp, Φ .non (sortF cl s h r j st sp false (List.range n) [] [] (.tup [.str "end"]) ++ R)
def C_Sorting___init__ (cl : Cl) : Ct := CtOf (S_Sorting_init cl)
theorem no_Sorting (cl : Cl) : NonOnly (C_Sorting___init__ cl) := nonly_of fun ds F R Φ ⟨s, h, n, e1, e2, z, k⟩ => ⟨s, h, n, e1, e2, z, fun r j st sp => ⟨rfl, k r j st sp⟩⟩
def C_place_all (cl : Cl) : Ct := fun _ _ _ => False
def C_Sorting_make_room (cl : Cl) : Ct := fun _ _ _ => False
def C_Sorting_join_at (cl : Cl) : Ct := fun _ _ _ => False
/-- the whole row is one run -/
def S_next_piece (cl : Cl) : Sc := fun ds F R Φ => ∃ (s h r j st sp mk la : Addr) (b : Bool) (row : List Nat) (stp : List D) (busy : D) (ms : List Int) (lg : Log), ds = [.ref s, .int 0] ∧ F = sortF cl s h r j st sp b row [] stp busy ++ honF cl h mk la ms lg ∧
  (0 < row.length ∧ row.length ≤ 100000 ∧ stp.length ≤ 1000 ∧ Row ms row ∧ (findRun ms row 0 row.length lg).1 = row.length ∧ (findRun ms row 0 row.length lg).2.2.length ≤ 1000000) ∧
  ∀ bz stp', Φ (.int row.length) (sortF cl s h r j st sp b (findRun ms row 0 row.length lg).2.1 [.tup [.int 0, .int row.length, .non]] stp' bz ++ honF cl h mk la ms (findRun ms row 0 row.length lg).2.2 ++ R)
def C_Sorting_next_piece (cl : Cl) : Ct := CtOf (S_next_piece cl)
/-- the questions of a row that is one run -/
def runLog (ms : List Int) (row : List Nat) (lg : Log) : Log := if 1 < row.length then (findRun ms row 0 row.length lg).2.2 else lg
def S_go (cl : Cl) : Sc := fun ds F R Φ => ∃ (s h r j st sp mk la : Addr) (b : Bool) (row : List Nat) (stp : List D) (busy : D) (ms : List Int) (lg : Log), ds = [.ref s] ∧ F = sortF cl s h r j st sp b row [] stp busy ++ honF cl h mk la ms lg ∧
  (row.length ≤ 100000 ∧ stp.length ≤ 1000 ∧ Row ms row ∧ (1 < row.length → (findRun ms row 0 row.length lg).1 = row.length ∧ (findRun ms row 0 row.length lg).2.1.length = row.length) ∧ (runLog ms row lg).length ≤ 1000000) ∧
  ∀ bz row' stk' stp', Φ .non (sortF cl s h r j st sp b row' stk' stp' bz ++ honF cl h mk la ms (runLog ms row lg) ++ R)
def C_Sorting_go (cl : Cl) : Ct := CtOf (S_go cl)
/-- the row of n items is one run -/
def OneRun (ms : List Int) : Prop := 1 < ms.length → (findRun ms (List.range ms.length) 0 ms.length []).1 = ms.length
def S_sorted_by (cl : Cl) : Sc := fun ds F R Φ => ∃ (q : Addr) (ms : List Int), ds = [.ref q, .bl false] ∧ F = [(q, intsO ms)] ∧ (ms.length ≤ 2000 ∧ OneRun ms ∧ (runLog ms (List.range ms.length) []).length ≤ 1000000) ∧
  ∀ s h r j st sp mk la bz row stk stp, Φ (.ref s) (sortF cl s h r j st sp false row stk stp bz ++ honF cl h mk la ms (runLog ms (List.range ms.length) []) ++ [(q, intsO ms)] ++ R)
def C_sorted_by (cl : Cl) : Ct := CtOf (S_sorted_by cl)
def S_count_of (cl : Cl) : Sc := fun ds F R Φ => ∃ (q : Addr) (ms : List Int), ds = [.ref q, .bl false] ∧ F = [(q, intsO ms)] ∧ (ms.length ≤ 2000 ∧ OneRun ms ∧ (runLog ms (List.range ms.length) []).length ≤ 1000000) ∧
  Φ (.int (runLog ms (List.range ms.length) []).length) ([(q, intsO ms)] ++ R)
def C_count_of (cl : Cl) : Ct := CtOf (S_count_of cl)
/-! count_of_falling -/
/-- a list or a tuple of ints -/
def seqF (d : D) (ms : List Int) (F : LL) : Prop := (∃ q, d = .ref q ∧ F = [(q, intsO ms)]) ∨ (d = .tup (ms.map .int) ∧ F = [])
def cof (ps : List Int) : Int := if ps.length = 1 then ps.getD 0 0 - 1 else ps.getD 0 0 + (if 1 < ps.getD 0 0 then 1 else 0) + (((ps.drop 1).map fun x => 2 * (x - 1)).sum + ps.length - 2)
def S_count_of_falling (cl : Cl) : Sc := fun ds F R Φ => ∃ (d : D) (ps : List Int), ds = [d] ∧ seqF d ps F ∧ (1 ≤ ps.length ∧ ps.length ≤ 300 ∧ ∀ x ∈ ps, 1 ≤ x ∧ x ≤ 1000000000000000000) ∧ Φ (.int (cof ps)) (F ++ R)
def C_count_of_falling (cl : Cl) : Ct := CtOf (S_count_of_falling cl)
def g_count_of_falling__k0_lengths : List D → List D → List D := fun _ es => es
theorem gkw_count_of_falling__k0_lengths {K : PySem.W.Frag} {H : Hp} {ds es : List D} {vs us : List V} (r1 : DRs K H ds vs) (r2 : DRs K H es us) (l1 : ds.length = 0) (l2 : es.length = 1) : DRs K H (g_count_of_falling__k0_lengths ds es) (vs ++ us) := by
  cases r1 with
  | nil => exact r2
  | cons _ _ => simp at l1
/-! the law's defs -/
abbrev srcO (a b n : Int) : LO := .lst [.int a, .int b, .int n]
def S_law_source (cl : Cl) : Sc := fun ds F R Φ => ∃ c : Int, ds = [.int c] ∧ F = [] ∧ ∀ p a b, Φ (.ref p) ([(p, srcO a b 0)] ++ R)
def C__law_source (cl : Cl) : Ct := CtOf (S_law_source cl)
def S_law_draw (cl : Cl) : Sc := fun ds F R Φ => ∃ (p : Addr) (a b n z : Int), ds = [.ref p, .int z] ∧ F = [(p, srcO a b n)] ∧ (0 < z ∧ z < 2 ^ 70) ∧ ∀ d a' b' n' : Int, 0 ≤ d → d < z → Φ (.int d) ([(p, srcO a' b' n')] ++ R)
def C__law_draw (cl : Cl) : Ct := CtOf (S_law_draw cl)
def S_law_pick (cl : Cl) : Sc := fun ds F R Φ => ∃ (p q : Addr) (a b n : Int) (xs : List Int), ds = [.ref p, .ref q] ∧ F = [(p, srcO a b n), (q, intsO xs)] ∧ (0 < xs.length ∧ xs.length ≤ 1000) ∧ ∀ x a' b' n', x ∈ xs → Φ (.int x) ([(p, srcO a' b' n'), (q, intsO xs)] ++ R)
def C__law_pick (cl : Cl) : Ct := CtOf (S_law_pick cl)
def due (ps : List Int) : Int := if ps.length = 1 then ps.sum - 1 else 2 * ps.sum - ps.getD 0 0 - ps.length + (if 1 < ps.getD 0 0 then 1 else 0)
def S_law_due (cl : Cl) : Sc := fun ds F R Φ => ∃ (q : Addr) (ps : List Int), ds = [.ref q] ∧ F = [(q, intsO ps)] ∧ 0 < ps.length ∧ Φ (.int (due ps)) ([(q, intsO ps)] ++ R)
def C__law_due (cl : Cl) : Ct := CtOf (S_law_due cl)
/-- ks: a stretch of equal keys for each part, each below the one before -/
inductive Falls : List Int → List Int → Prop
  | nil : Falls [] []
  | one {k : Int} {p : Nat} {ps : List Int} {ks : List Int} : 1 ≤ p → Falls ps ks → (∀ x ∈ ks, x < k) → Falls ((p : Int) :: ps) (List.replicate p k ++ ks)
def S_law_given (cl : Cl) : Sc := fun ds F R Φ => ∃ (p q : Addr) (a b n : Int) (ps : List Int), ds = [.ref p, .ref q] ∧ F = [(p, srcO a b n), (q, intsO ps)] ∧ (ps.length ≤ 12 ∧ ∀ x ∈ ps, 1 ≤ x ∧ x ≤ 25) ∧
  ∀ k ks a' b' n', Falls ps ks → Φ (.ref k) ([(k, intsO ks), (p, srcO a' b' n'), (q, intsO ps)] ++ R)
def C__law_given (cl : Cl) : Ct := CtOf (S_law_given cl)
def S_law_right (cl : Cl) : Sc := fun ds F R Φ => ∃ (p : Addr) (a b n : Int), ds = [.ref p] ∧ F = [(p, srcO a b n)] ∧ ∀ a' b' n', Φ (.bl true) ([(p, srcO a' b' n')] ++ R)
def C__law_right (cl : Cl) : Ct := CtOf (S_law_right cl)
def C__law_great_right (cl : Cl) : Ct := CtOf (S_law_right cl)
def S_law (cl : Cl) : Sc := fun ds F R Φ => ∃ (q : Addr) (ms : List Int), ds = [.ref q] ∧ F = [(q, .ro (ms.map .int))] ∧ ms.length ≤ 999999 ∧ Φ (.bl true) ([(q, .ro (ms.map .int))] ++ R)
def C_law (cl : Cl) : Ct := CtOf (S_law cl)
end DL

namespace DL
open PySem PySem.Spec PyProof.Rows L2

def t_Joiner___init__ (cl : Cl) : TS' :=
  tSeq' (tAsg' (tTup' (tCons' (tVar' 1) (tCons' (tVar' 2) (tNil')))) (gTup' 2 (gCons' (gFld' cl.Joiner 6 (tVar' 0)) (gCons' (gFld' cl.Joiner 17 (tVar' 0)) (gNil')))))
  (tAsg' (tTup' (tCons' (tTup' (tCons' (tC' (.int 0)) (tCons' (tC' (.int 0)) (tNil')))) (tCons' (tLst' (tNil')) (tNil')))) (gTup' 2 (gCons' (gFld' cl.Joiner 29 (tVar' 0)) (gCons' (gFld' cl.Joiner 30 (tVar' 0)) (gNil')))))
-- self asker patience
def t_Sorting___init__ (cl : Cl) : TS' :=
  tSeq' (tAsg' (tTup' (tCons' (tLstRg1' (tVar' 1)) (tCons' (tVar' 2) (tCons' (tVar' 3) (tNil'))))) (gTup' 3 (gCons' (gFld' cl.Sorting 4 (tVar' 0)) (gCons' (gFld' cl.Sorting 5 (tVar' 0)) (gCons' (gFld' cl.Sorting 6 (tVar' 0)) (gNil'))))))
  (tSeq' (tAsg' (tTup' (tCons' (tMake' cl.Joiner (C_Joiner___init__ cl) [.int 7] (tCons' (tVar' 3) (tNil'))) (tCons' (tLst' (tNil')) (tCons' (tLst' (tNil')) (tCons' (tTup' (tCons' (tC' (.str "end")) (tNil'))) (tNil')))))) (gTup' 4 (gCons' (gFld' cl.Sorting 7 (tVar' 0)) (gCons' (gFld' cl.Sorting 8 (tVar' 0)) (gCons' (gFld' cl.Sorting 9 (tVar' 0)) (gCons' (gFld' cl.Sorting 10 (tVar' 0)) (gNil')))))))
  (tIfS' (tTru' (tVar' 2)) (tDrop' (tLM0' fReverse (tFld' cl.Sorting 4 (tVar' 0)))) (tNext')))
-- self many is_turned asker
def t_Sorting_next_piece (cl : Cl) : TS' :=
  tSeq' (tAsg' (tCB' fLen (tCons' (tFld' cl.Sorting 4 (tVar' 0)) (tNil'))) (gName' 2))
  (tSeq' (tFldS' cl.Sorting 10 (tVar' 0) (tTup' (tCons' (tC' (.str "run")) (tCons' (tVar' 1) (tNil')))))
  (tSeq' (tAsg2' (tCall' (C_find_run cl) [] (tCons' (tFld' cl.Sorting 4 (tVar' 0)) (tCons' (tVar' 1) (tCons' (tVar' 2) (tCons' (tFld' cl.Sorting 6 (tVar' 0)) (tNil')))))) (gName' 3) (gName' 4))
  (tSeq' (tAsg' (tCall' (C_least_of cl) [] (tCons' (tVar' 2) (tNil'))) (gName' 5))
  (tSeq' (tIfS' (tTst' (tBin' fLt (tVar' 4) (tVar' 5))) (tSeq' (tAsg' (tCB' fMin2 (tCons' (tVar' 5) (tCons' (tBin' fSub (tVar' 2) (tVar' 1)) (tNil')))) (gName' 4))
  (tSeq' (tFldS' cl.Sorting 10 (tVar' 0) (tTup' (tCons' (tC' (.str "place")) (tCons' (tVar' 1) (tCons' (tVar' 4) (tNil'))))))
  (tDrop' (tCall' (C_place_all cl) [] (tCons' (tFld' cl.Sorting 4 (tVar' 0)) (tCons' (tVar' 1) (tCons' (tBin' fAdd (tVar' 1) (tVar' 4)) (tCons' (tVar' 3) (tCons' (tFld' cl.Sorting 6 (tVar' 0)) (tNil')))))))))) (tNext'))
  (tSeq' (tDrop' (tLM' fAppend (tFld' cl.Sorting 9 (tVar' 0)) (tCons' (tTup' (tCons' (tC' (.str "piece")) (tCons' (tVar' 1) (tCons' (tVar' 3) (tCons' (tVar' 4) (tCons' (tCB' fLen (tCons' (tFld' cl.Honest 1 (tFld' cl.Sorting 6 (tVar' 0))) (tNil'))) (tNil'))))))) (tNil'))))
  (tSeq' (tIfS' (tTst' (tBin' fNe (tFld' cl.Sorting 8 (tVar' 0)) (tLst' (tNil')))) (tDrop' (tMeth' cl.Sorting (C_Sorting_make_room cl) [] (tVar' 0) (tCons' (tVar' 4) (tNil')))) (tNext'))
  (tSeq' (tDrop' (tLM' fAppend (tFld' cl.Sorting 8 (tVar' 0)) (tCons' (tTup' (tCons' (tVar' 1) (tCons' (tVar' 4) (tCons' (tC' .non) (tNil'))))) (tNil'))))
  (tRet' (tVar' 4)))))))))
-- self start many found length least
def t_Sorting_go (cl : Cl) : TS' :=
  tSeq' (tIfS' (tTst' (tBin' fGt (tCB' fLen (tCons' (tFld' cl.Sorting 4 (tVar' 0)) (tNil'))) (tC' (.int 1)))) (tSeq' (tAsg' (tC' (.int 0)) (gName' 1))
  (tSeq' (tWhile' (tTst' (tBin' fLt (tVar' 1) (tCB' fLen (tCons' (tFld' cl.Sorting 4 (tVar' 0)) (tNil'))))) (tAug' 1 (tMeth' cl.Sorting (C_Sorting_next_piece cl) [] (tVar' 0) (tCons' (tVar' 1) (tNil'))) (fI fun i j => .int (i + j))))
  (tWhile' (tTst' (tBin' fGt (tCB' fLen (tCons' (tFld' cl.Sorting 8 (tVar' 0)) (tNil'))) (tC' (.int 1)))) (tSeq' (tAsg' (tBin' fSub (tCB' fLen (tCons' (tFld' cl.Sorting 8 (tVar' 0)) (tNil'))) (tC' (.int 2))) (gName' 2))
  (tSeq' (tIfS' (tAnd' (tTst' (tBin' fGt (tVar' 2) (tC' (.int 0)))) (tTst' (tBin' fLt (tBin' fIx (tBin' fIx (tFld' cl.Sorting 8 (tVar' 0)) (tBin' fSub (tVar' 2) (tC' (.int 1)))) (tC' (.int 1))) (tBin' fIx (tBin' fIx (tFld' cl.Sorting 8 (tVar' 0)) (tBin' fAdd (tVar' 2) (tC' (.int 1)))) (tC' (.int 1)))))) (tAug' 2 (tC' (.int 1)) (fI fun i j => .int (i - j))) (tNext'))
  (tDrop' (tMeth' cl.Sorting (C_Sorting_join_at cl) [] (tVar' 0) (tCons' (tVar' 2) (tNil'))))))))) (tNext'))
  (tFldS' cl.Sorting 10 (tVar' 0) (tTup' (tCons' (tC' (.str "end")) (tNil'))))
-- self start place
def t_sorted_by (cl : Cl) : TS' :=
  tSeq' (tDrop' (tCall' (C_require_keys cl) [.int 2000] (tCons' (tVar' 0) (tNil'))))
  (tSeq' (tDrop' (tCall' (C_require_bool cl) [] (tCons' (tC' (.str "reverse")) (tCons' (tVar' 1) (tNil')))))
  (tSeq' (tAsg' (tMake' cl.Sorting (C_Sorting___init__ cl) [] (tCons' (tCB' fLen (tCons' (tVar' 0) (tNil'))) (tCons' (tVar' 1) (tCons' (tMake' cl.Honest (C_Honest___init__ cl) [] (tCons' (tVar' 0) (tNil'))) (tNil'))))) (gName' 2))
  (tSeq' (tDrop' (tMeth0' cl.Sorting (C_Sorting_go cl) [] (tVar' 2)))
  (tRet' (tVar' 2)))))
-- keys reverse sorting
def t_count_of (cl : Cl) : TS' :=
  tRet' (tCB' fLen (tCons' (tFld' cl.Honest 1 (tFld' cl.Sorting 6 (tCall' (C_sorted_by cl) [] (tCons' (tVar' 0) (tCons' (tVar' 1) (tNil')))))) (tNil')))
-- keys reverse
def t_count_of_falling (cl : Cl) : TS' :=
  tSeq' (tIfS' (tOr' (tNot' (tTru' (tIsi2' .ls .tp (tVar' 0)))) (tNot' (tTst' (tChain' fLe fLe (tC' (.int 1)) (tCB' fLen (tCons' (tVar' 0) (tNil'))) (tC' (.int 300)))))) (tNever') (tNext'))
  (tSeq' (tFor' (iEnumA' (tCons' (tVar' 0) (tNil'))) (gTup' 2 (gCons' (gName' 2) (gCons' (gName' 3) (gNil')))) (tIfS' (tNot' (tTru' (tCall' (C_is_between cl) [] (tCons' (tVar' 3) (tCons' (tC' (.int 1)) (tCons' (tC' (.int 1000000000000000000)) (tNil'))))))) (tNever') (tNext')))
  (tSeq' (tIfS' (tTst' (tBin' fEq (tCB' fLen (tCons' (tVar' 0) (tNil'))) (tC' (.int 1)))) (tRet' (tBin' fSub (tBin' fIx (tVar' 0) (tC' (.int 0))) (tC' (.int 1)))) (tNext'))
  (tSeq' (tAsg' (tBin' fSub (tBin' fAdd (tCB' fSum (tCons' (tLc' (iSeq' (tSl' (tVar' 0) (tPart' (tC' (.int 1))) (tNoPart'))) (gName' 3) (tYes') (tBin' fMul (tC' (.int 2)) (tBin' fSub (tVar' 3) (tC' (.int 1)))) [3]) (tNil'))) (tCB' fLen (tCons' (tVar' 0) (tNil')))) (tC' (.int 2))) (gName' 1))
  (tRet' (tBin' fAdd (tBin' fAdd (tBin' fIx (tVar' 0) (tC' (.int 0))) (tCB' fInt (tCons' (tBin' fGt (tBin' fIx (tVar' 0) (tC' (.int 0))) (tC' (.int 1))) (tNil')))) (tVar' 1))))))
-- lengths later index length
def t__law_source (cl : Cl) : TS' :=
  tRet' (tLst' (tCons' (tBin' fMul (tCB' fAbs (tCons' (tVar' 0) (tNil'))) (tCB' fInt (tCons' (tBin' fGe (tCB' fAbs (tCons' (tVar' 0) (tNil'))) (tBin' fPow (tC' (.int 10)) (tC' (.int 18)))) (tNil')))) (tCons' (tBin' fMod (tCB' fInt (tCons' (tVar' 0) (tNil'))) (tC' (.int 2147483587))) (tCons' (tC' (.int 0)) (tNil')))))
-- cell
def t__law_draw (cl : Cl) : TS' :=
  tSeq' (tIfS' (tTst' (tBin' fGt (tBin' fIx (tVar' 0) (tC' (.int 0))) (tC' (.int 0)))) (tSeq' (tAsg' (tBin' fMod (tCB' fInt (tCons' (tBin' fIx (tVar' 0) (tC' (.int 0))) (tNil'))) (tVar' 1)) (gName' 3))
  (tSeq' (tAsg' (tBin' fFdiv (tBin' fIx (tVar' 0) (tC' (.int 0))) (tVar' 1)) (gSub' (tVar' 0) (tC' (.int 0))))
  (tRet' (tVar' 3)))) (tNext'))
  (tSeq' (tAsg' (tBin' fAdd (tBin' fIx (tVar' 0) (tC' (.int 2))) (tC' (.int 1))) (gSub' (tVar' 0) (tC' (.int 2))))
  (tSeq' (tAsg' (tBin' fMod (tCB' fInt (tCons' (tBin' fMul (tBin' fAdd (tBin' fAdd (tBin' fIx (tVar' 0) (tC' (.int 1))) (tBin' fMul (tC' (.int 52711)) (tBin' fIx (tVar' 0) (tC' (.int 2))))) (tC' (.int 13))) (tC' (.int 48271))) (tNil'))) (tC' (.int 2147483629))) (gName' 2))
  (tSeq' (tAsg' (tBin' fMod (tCB' fInt (tCons' (tBin' fMul (tVar' 2) (tBin' fAdd (tBin' fAdd (tBin' fFdiv (tVar' 2) (tC' (.int 1021))) (tC' (.int 69621))) (tBin' fIx (tVar' 0) (tC' (.int 2))))) (tNil'))) (tC' (.int 2147483579))) (gName' 2))
  (tRet' (tBin' fMod (tCB' fInt (tCons' (tBin' fFdiv (tBin' fMod (tCB' fInt (tCons' (tBin' fMul (tVar' 2) (tBin' fAdd (tBin' fFdiv (tVar' 2) (tC' (.int 2011))) (tC' (.int 40692)))) (tNil'))) (tC' (.int 2147483549))) (tC' (.int 3))) (tNil'))) (tVar' 1))))))
-- source size mixed digit
def t__law_pick (cl : Cl) : TS' :=
  tRet' (tBin' fIx (tVar' 1) (tCall' (C__law_draw cl) [] (tCons' (tVar' 0) (tCons' (tCB' fLen (tCons' (tVar' 1) (tNil'))) (tNil')))))
-- source items
def t__law_due (cl : Cl) : TS' :=
  tSeq' (tAsg' (tCB' fSum (tCons' (tVar' 0) (tNil'))) (gName' 1))
  (tSeq' (tIfS' (tTst' (tBin' fEq (tCB' fLen (tCons' (tVar' 0) (tNil'))) (tC' (.int 1)))) (tRet' (tBin' fSub (tVar' 1) (tC' (.int 1)))) (tNext'))
  (tRet' (tBin' fAdd (tBin' fSub (tBin' fSub (tBin' fMul (tC' (.int 2)) (tVar' 1)) (tBin' fIx (tVar' 0) (tC' (.int 0)))) (tCB' fLen (tCons' (tVar' 0) (tNil')))) (tCB' fInt (tCons' (tBin' fGt (tBin' fIx (tVar' 0) (tC' (.int 0))) (tC' (.int 1))) (tNil'))))))
-- parts total
def t__law_given (cl : Cl) : TS' :=
  tSeq' (tPar' 3 4 (tCons' (tLst' (tNil')) (tCons' (tCall' (C__law_draw cl) [] (tCons' (tVar' 0) (tCons' (tBin' fPow (tC' (.int 10)) (tC' (.int 6))) (tNil')))) (tNil'))))
  (tSeq' (tFor' (iSeq' (tVar' 1)) (gName' 2) (tSeq' (tAsg' (tBin' fAdd (tVar' 3) (tBin' fMul (tLst' (tCons' (tVar' 4) (tNil'))) (tVar' 2))) (gName' 3))
  (tAsg' (tBin' fSub (tBin' fSub (tVar' 4) (tC' (.int 1))) (tCall' (C__law_draw cl) [] (tCons' (tVar' 0) (tCons' (tCall' (C__law_pick cl) [] (tCons' (tVar' 0) (tCons' (tLst' (tCons' (tC' (.int 1)) (tCons' (tC' (.int 3)) (tCons' (tBin' fPow (tC' (.int 10)) (tC' (.int 20))) (tNil'))))) (tNil')))) (tNil'))))) (gName' 4))))
  (tRet' (tVar' 3)))
-- source parts part found number
def t__law_right (cl : Cl) : TS' :=
  tSeq' (tAsg' (tLc' (iRng1' (tCons' (tBin' fAdd (tC' (.int 1)) (tCall' (C__law_draw cl) [] (tCons' (tVar' 0) (tCons' (tC' (.int 12)) (tNil'))))) (tNil'))) (gName' 4) (tYes') (tBin' fAdd (tC' (.int 1)) (tCall' (C__law_draw cl) [] (tCons' (tVar' 0) (tCons' (tCall' (C__law_pick cl) [] (tCons' (tVar' 0) (tCons' (tLst' (tCons' (tC' (.int 1)) (tCons' (tC' (.int 2)) (tCons' (tC' (.int 4)) (tCons' (tC' (.int 25)) (tNil')))))) (tNil')))) (tNil'))))) [4]) (gName' 1))
  (tSeq' (tPar' 2 3 (tCons' (tCall' (C__law_due cl) [] (tCons' (tVar' 1) (tNil'))) (tCons' (tCB' fList (tCons' (tVar' 1) (tNil'))) (tNil'))))
  (tSeq' (tIfS' (tOr' (tTst' (tBin' fNe (tCall' (C_count_of_falling cl) [] (tCons' (tVar' 1) (tNil'))) (tVar' 2))) (tOr' (tTst' (tBin' fNe (tCallK0' 1 g_count_of_falling__k0_lengths (C_count_of_falling cl) (tCons' (tCB' fTuple (tCons' (tVar' 1) (tNil'))) (tNil'))) (tVar' 2))) (tTst' (tBin' fNe (tVar' 1) (tVar' 3))))) (tRet' (tC' (.bl false))) (tNext'))
  (tRet' (tBin' fEq (tCall' (C_count_of cl) [.bl false] (tCons' (tCall' (C__law_given cl) [] (tCons' (tVar' 0) (tCons' (tVar' 1) (tNil')))) (tNil'))) (tVar' 2)))))
-- source parts due stood go
def t__law_great_right (cl : Cl) : TS' :=
  tSeq' (tAsg' (tBin' fAdd (tC' (.int 1)) (tCall' (C__law_draw cl) [] (tCons' (tVar' 0) (tCons' (tCall' (C__law_pick cl) [] (tCons' (tVar' 0) (tCons' (tLst' (tCons' (tC' (.int 3)) (tCons' (tC' (.int 20)) (tCons' (tC' (.int 300)) (tNil'))))) (tNil')))) (tNil'))))) (gName' 1))
  (tSeq' (tAsg' (tLc' (iRng1' (tCons' (tVar' 1) (tNil'))) (gName' 3) (tYes') (tBin' fAdd (tC' (.int 1)) (tCall' (C__law_draw cl) [] (tCons' (tVar' 0) (tCons' (tCall' (C__law_pick cl) [] (tCons' (tVar' 0) (tCons' (tLst' (tCons' (tC' (.int 1)) (tCons' (tC' (.int 5)) (tCons' (tBin' fPow (tC' (.int 10)) (tC' (.int 9))) (tCons' (tBin' fPow (tC' (.int 10)) (tC' (.int 18))) (tNil')))))) (tNil')))) (tNil'))))) [3]) (gName' 2))
  (tRet' (tBin' fEq (tCall' (C_count_of_falling cl) [] (tCons' (tVar' 2) (tNil'))) (tCall' (C__law_due cl) [] (tCons' (tVar' 2) (tNil'))))))
-- source size parts go
def t_law (cl : Cl) : TS' :=
  tSeq' (tFor' (iSeq' (tSl' (tBin' fAdd (tVar' 0) (tLst' (tCons' (tC' (.int 0)) (tNil')))) (tNoPart') (tPart' (tC' (.int 3))))) (gName' 1) (tSeq' (tAsg' (tCall' (C__law_source cl) [] (tCons' (tVar' 1) (tNil'))) (gName' 2))
  (tFor' (iRng1' (tCons' (tC' (.int 8)) (tNil'))) (gName' 3) (tIfS' (tOr' (tNot' (tTru' (tCall' (C__law_right cl) [] (tCons' (tVar' 2) (tNil'))))) (tNot' (tTru' (tCall' (C__law_great_right cl) [] (tCons' (tVar' 2) (tNil')))))) (tRet' (tC' (.bl false))) (tNext')))))
  (tSeq' (tIfS' (tTst' (tBin' fNe (tCall' (C_count_of_falling cl) [] (tCons' (tBin' fMul (tLst' (tCons' (tBin' fPow (tC' (.int 10)) (tC' (.int 18))) (tNil'))) (tC' (.int 300))) (tNil'))) (tBin' fSub (tBin' fSub (tBin' fMul (tC' (.int 600)) (tBin' fPow (tC' (.int 10)) (tC' (.int 18)))) (tBin' fPow (tC' (.int 10)) (tC' (.int 18)))) (tC' (.int 299))))) (tRet' (tC' (.bl false))) (tNext'))
  (tRet' (tBin' fEq (tLc' (iSeq' (tTup' (tCons' (tLst' (tCons' (tC' (.int 1)) (tNil'))) (tCons' (tLst' (tCons' (tC' (.int 5)) (tNil'))) (tCons' (tLst' (tCons' (tC' (.int 1)) (tCons' (tC' (.int 1)) (tNil')))) (tCons' (tLst' (tCons' (tC' (.int 2)) (tCons' (tC' (.int 1)) (tNil')))) (tCons' (tLst' (tCons' (tC' (.int 1)) (tCons' (tC' (.int 2)) (tNil')))) (tCons' (tLst' (tCons' (tC' (.int 2)) (tCons' (tC' (.int 1)) (tCons' (tC' (.int 3)) (tNil'))))) (tNil'))))))))) (gName' 4) (tYes') (tCall' (C_count_of_falling cl) [] (tCons' (tVar' 4) (tNil'))) [4]) (tLst' (tCons' (tC' (.int 0)) (tCons' (tC' (.int 4)) (tCons' (tC' (.int 1)) (tCons' (tC' (.int 3)) (tCons' (tC' (.int 3)) (tCons' (tC' (.int 8)) (tNil')))))))))))
-- script cell source go parts
end DL

namespace DL
open PySem PySem.Spec PyProof.Rows L2
local macro_rules | `(tactic| walk_at "has") => `(tactic| first | exact Has.here | (apply Has.there; walk_at "has"))
local macro_rules | `(tactic| walk_at "hasl") => `(tactic| first | (refine Or.inl ?_; walk_at "has") | (refine Or.inr ?_; walk_at "has"))
local macro_rules | `(tactic| walk_at "sel") => `(tactic| first | exact Sel.here | (apply Sel.there; walk_at "sel"))
local macro_rules | `(tactic| walk_at "chg") => `(tactic| first | exact Chg.here | (apply Chg.there; walk_at "chg"))
local macro_rules | `(tactic| walk_at "pull") => `(tactic| first | exact Pull.nil | (apply Pull.cons; (walk_at "sel"); exact rfl; walk_at "pull"))
local macro_rules | `(tactic| walk_at "cov") => `(tactic| first | exact Cov.refl | (apply Cov.take; (walk_at "sel"); (first | exact rfl | assumption); walk_at "cov") | (apply Cov.take; (walk_at "sel"); rotate_left; walk_at "cov") | (refine Cov.drop ?_; walk_at "cov"))
local macro_rules | `(tactic| walk_at "sub") => `(tactic| first | exact Sub.nil | (refine Sub.same (by first | rfl | assumption) ?_; walk_at "sub") | (refine Sub.any ?_; walk_at "sub") | (refine Sub.same ?_ ?_; rotate_left; walk_at "sub"))
local macro_rules | `(tactic| walk_at "side") => `(tactic| first | assumption | rfl | omega | (refine mulOk_r ?_ ?_ <;> first | omega | decide) | (refine mulOk_l ?_ ?_ <;> first | omega | decide) | (refine divOk_of ?_ ?_ <;> first | omega | decide) | (refine ⟨?_, ?_⟩ <;> walk_at "side") | (simp <;> omega) | decide)
local macro_rules | `(tactic| walk_at "br") => `(tactic| first | (with_reducible first | refine Br.t ?_ | refine Br.f ?_ | (refine Br.dec ?_ ?_ <;> intro _) | (refine Br.ndec ?_ ?_ <;> intro _)) | refine Br.t ?_ | refine Br.f ?_ | (with_reducible refine Br.mk ?_ ?_ <;> intro _))
local macro_rules | `(tactic| walk_at "st") => `(tactic| ((try (conv => whnf)); first
  | walk_at "br"
  | with_reducible (intro _)
  | (refine ⟨_, (by walk_at "has" : Has _ _ _), ?_⟩)
  | (refine ⟨_, (by walk_at "hasl" : HasL _ _ _), ?_⟩)
  | (refine ⟨_, _, (by walk_at "chg" : Chg _ _ _ _ _), ?_⟩)
  | (refine ⟨_, _, _, (by walk_at "chg" : Chg _ _ _ _ _), (by first | rfl | assumption : ixN _ _ = some _), ?_⟩)
  | (refine ⟨_, _, (by walk_at "sel" : Sel _ _ _ _), ?_⟩)
  | (refine ⟨_, (by first | rfl | assumption : atI _ _ = some _), ?_⟩)
  | (refine And.intro (by walk_at "side") ?_)))
local macro_rules | `(tactic| walk_at "st2") => `(tactic| first | walk_at "st" | ((try (conv => whnf)); with_reducible refine And.intro ?_ ?_; rotate_left))
local macro_rules | `(tactic| walk_at "go") => `(tactic| first | ((try (conv => whnf)); walk_at "br" <;> walk_at "go") | (walk_at "st"; walk_at "go") | (conv => whnf) | skip)
theorem rgD_nat (n : Nat) : rgD 0 (n : Int) = (List.range n).map dn := by
  unfold rgD
  rw [show ((n : Int) - 0).toNat = n by omega]
  refine List.map_congr_left fun i _ => ?_
  simp [dn]
theorem leastGo_le : ∀ f m o, o ≤ 1 → leastGo f m o ≤ m + o
  | 0, m, o, _ => Nat.le_refl _
  | f + 1, m, o, h => by
    unfold leastGo
    split
    · have := leastGo_le f (m / 2) (if o = 0 then m % 2 else o) (by split <;> omega)
      refine Nat.le_trans this ?_
      split <;> omega
    · exact Nat.le_refl _
theorem leastN_le (m : Nat) : leastN m ≤ m := leastGo_le m m 0 (by omega)
theorem findRun_grow (ms : List Int) (row : List Nat) (s e : Nat) (lg : Log) : lg.length ≤ (findRun ms row s e lg).2.2.length := by
  unfold findRun
  refine Nat.le_trans (rising_grow ms row e (e - (s + 1)) (s + 1) lg) ?_
  generalize rising ms row e (e - (s + 1)) (s + 1) lg = z
  unfold runAt runOn
  split
  · exact Nat.le_refl _
  · split
    · split
      · simp
      · refine Nat.le_trans ?_ (rising_grow ..)
        refine Nat.le_trans ?_ (falling_grow ..)
        simp
    · refine Nat.le_trans ?_ (rising_grow ..)
      exact falling_grow ..
theorem rd_Joiner_init (cl : Cl) (ds : List D) (F R : LL) (Φ : DK) (h : S_Joiner_init cl ds F R Φ) : t_Joiner___init__ cl (endD Φ) (startD 3 ds) (F ++ R) := by
  obtain ⟨j, a, rfl, rfl, h⟩ := h
  walk_at "go"
  rename_i al
  refine Ret.mk _ ?_ (h al)
  walk_at "cov"
theorem rd_Sorting_init (cl : Cl) (ds : List D) (F R : LL) (Φ : DK) (h : S_Sorting_init cl ds F R Φ) : t_Sorting___init__ cl (endD Φ) (startD 4 ds) (F ++ R) := by
  obtain ⟨s, a, n, rfl, rfl, hn, h⟩ := h
  walk_at "go"
  refine CtOf.mk _ _ (by walk_at "pull") ⟨_, a, rfl, rfl, ?_⟩
  intro al
  walk_at "go"
  rename_i r j st sp
  refine Ret.mk _ ?_ (h r j st sp)
  walk_at "cov"
  rw [rgD_nat]
theorem call_find_run {cl : Cl} {L R : LL} {Φ : DK} {r h mk la : Addr} {row : List Nat} {ms : List Int} {lg : Log} {a b : Int} (s e : Nat) (hp : Pull L ((r, rowO row) :: honF cl h mk la ms lg) R) (ei : a = s) (ej : b = e)
    (h1 : s < e) (h2 : e ≤ row.length) (hz : row.length ≤ 100000) (h3 : Row ms row) (h4 : (findRun ms row s e lg).2.2.length ≤ 1000000)
    (k : Φ (.int (findRun ms row s e lg).1) ((r, rowO (findRun ms row s e lg).2.1) :: honF cl h mk la ms (findRun ms row s e lg).2.2 ++ R)) :
    CtOf (S_find_run cl) [.ref r, .int a, .int b, .ref h] L Φ := by
  subst ei ej
  exact ⟨_, _, hp, r, h, mk, la, row, ms, lg, s, e, rfl, rfl, ⟨h1, h2, hz, h3, h4⟩, k⟩
theorem rd_next_piece (cl : Cl) (ds : List D) (F R : LL) (Φ : DK) (h : S_next_piece cl ds F R Φ) : t_Sorting_next_piece cl (endD Φ) (startD 6 ds) (F ++ R) := by
  obtain ⟨s, a, r, j, st, sp, mk, la, b, row, stp, busy, ms, lg, rfl, rfl, ⟨h0, hz, hs, h3, h1, h4⟩, h⟩ := h
  walk_at "go"
  refine call_find_run 0 row.length (by walk_at "pull") rfl (by simp) h0 (Nat.le_refl _) hz h3 h4 ?_
  rw [h1]
  walk_at "go"
  refine CtOf.mk [] _ .nil ⟨row.length, by simp, rfl, ?_⟩
  have := leastN_le row.length
  walk_at "go"
  · omega
  · refine deepE.mk (.list []) (.list []) (.lst (by walk_at "hasl") .nil) (.lst (by walk_at "hasl") .nil) ?_
    have e : PyData.eqv (.list []) (.list []) = true := rfl
    rw [e]
    walk_at "go"
    apply Ret.mk
    rotate_left
    apply h
    rotate_left 2
    walk_at "cov"
theorem rd_go (cl : Cl) (ds : List D) (F R : LL) (Φ : DK) (h : S_go cl ds F R Φ) : t_Sorting_go cl (endD Φ) (startD 3 ds) (F ++ R) := by
  obtain ⟨s, a, r, j, st, sp, mk, la, b, row, stp, busy, ms, lg, rfl, rfl, ⟨hz, hs, h3, h1, h4⟩, h⟩ := h
  walk_at "go"
  · rename_i hn
    have hn' : 1 < row.length := by simp at hn; omega
    obtain ⟨q1, q2⟩ := h1 hn'
    unfold runLog at h h4
    rw [if_pos hn'] at h h4
    refine WhileI.inv (α := Option (D × List D)) (fun x => match x with
        | none => [some (.ref s), some (.int 0), none]
        | some _ => [some (.ref s), some (.int row.length), none])
      (fun x => match x with
        | none => sortF cl s a r j st sp b row [] stp busy ++ honF cl a mk la ms lg ++ R
        | some (bz, stp') => sortF cl s a r j st sp b (findRun ms row 0 row.length lg).2.1 [.tup [.int 0, .int row.length, .non]] stp' bz ++ honF cl a mk la ms (findRun ms row 0 row.length lg).2.2 ++ R)
      (fun _ => True) (fun x => match x with
        | none => 1
        | some _ => 0) none (by walk_at "sub") .refl trivial ?_
    rintro (_ | ⟨bz, stp'⟩) _
    · dsimp only
      walk_at "go"
      · refine CtOf.mk _ _ (by walk_at "pull") ⟨s, a, r, j, st, sp, mk, la, b, row, stp, busy, ms, lg, rfl, rfl, ⟨by omega, hz, hs, h3, q1, h4⟩, ?_⟩
        intro bz stp'
        walk_at "go"
        refine Nxt.mk (some (bz, stp')) ?_ .refl trivial (by show (0 : Nat) < 1; omega)
        walk_at "sub"
        simp
      · rename_i z
        exfalso
        apply z
        simp
        omega
    · dsimp only
      walk_at "go"
      · rename_i z
        simp [q2] at z
      · refine WhileI.inv (α := Unit) (fun _ => [some (.ref s), none, none]) (fun _ => sortF cl s a r j st sp b (findRun ms row 0 row.length lg).2.1 [.tup [.int 0, .int row.length, .non]] stp' bz ++ honF cl a mk la ms (findRun ms row 0 row.length lg).2.2 ++ R)
          (fun _ => True) (fun _ => 0) () (by walk_at "sub") .refl trivial ?_
        intro _ _
        walk_at "go"
        · rename_i z z2
          exact absurd z (by simp)
        · rename_i z z2
          exact absurd z (by simp)
        · apply Ret.mk
          rotate_left
          apply h
          rotate_left 4
          walk_at "cov"
  · rename_i hn
    have hn' : ¬ 1 < row.length := by simp at hn; omega
    unfold runLog at h
    rw [if_neg hn'] at h
    apply Ret.mk
    rotate_left
    apply h
    rotate_left 4
    walk_at "cov"
theorem Row.range (ms : List Int) : Row ms (List.range ms.length) := fun x hx => by simpa using hx
theorem findRun_len {ms : List Int} {row : List Nat} {s e : Nat} {lg : Log} (h1 : s < e) (h2 : e ≤ row.length) : (findRun ms row s e lg).2.1.length = row.length := by
  unfold findRun
  have g1 := rising_at ms row e (e - (s + 1)) (s + 1) lg
  generalize rising ms row e (e - (s + 1)) (s + 1) lg = z at *
  obtain ⟨p, lg1⟩ := z
  dsimp only at g1 ⊢
  have g3 := g1.1
  have g4 := g1.2 (by omega)
  have on : ∀ row1 lg1, row1.length = row.length → p ≠ e → (runOn ms e s p row1 lg1).2.1.length = row.length := fun row1 lg1 hl hp => by
    unfold runOn
    dsimp only
    have q := falling_row ms e (e - (p + 1)) (p + 1) 0 row1 lg1 (by omega) (by omega)
    have ga := falling_at ms e (e - (p + 1)) (p + 1) 0 row1 lg1
    have gb := ga.2 (by omega)
    rw [turnN_length (by omega) (by omega), q, hl]
  unfold runAt
  split
  · rfl
  · rename_i hp
    split
    · split
      · rfl
      · exact on _ _ (turnN_length (by omega) (by omega)) hp
    · exact on _ _ rfl hp
end DL

namespace DL
open PySem PySem.Spec PyProof.Rows L2
local macro_rules | `(tactic| walk_at "has") => `(tactic| first | exact Has.here | (apply Has.there; walk_at "has"))
local macro_rules | `(tactic| walk_at "hasl") => `(tactic| first | (refine Or.inl ?_; walk_at "has") | (refine Or.inr ?_; walk_at "has"))
local macro_rules | `(tactic| walk_at "sel") => `(tactic| first | exact Sel.here | (apply Sel.there; walk_at "sel"))
local macro_rules | `(tactic| walk_at "chg") => `(tactic| first | exact Chg.here | (apply Chg.there; walk_at "chg"))
local macro_rules | `(tactic| walk_at "pull") => `(tactic| first | exact Pull.nil | (apply Pull.cons; (walk_at "sel"); exact rfl; walk_at "pull"))
local macro_rules | `(tactic| walk_at "cov") => `(tactic| first | exact Cov.refl | (apply Cov.take; (walk_at "sel"); (first | exact rfl | assumption); walk_at "cov") | (apply Cov.take; (walk_at "sel"); rotate_left; walk_at "cov") | (refine Cov.drop ?_; walk_at "cov"))
local macro_rules | `(tactic| walk_at "sub") => `(tactic| first | exact Sub.nil | (refine Sub.same (by first | rfl | assumption) ?_; walk_at "sub") | (refine Sub.any ?_; walk_at "sub") | (refine Sub.same ?_ ?_; rotate_left; walk_at "sub"))
local macro_rules | `(tactic| walk_at "side") => `(tactic| first | assumption | rfl | omega | (refine mulOk_r ?_ ?_ <;> first | omega | decide) | (refine mulOk_l ?_ ?_ <;> first | omega | decide) | (refine divOk_of ?_ ?_ <;> first | omega | decide) | (refine ⟨?_, ?_⟩ <;> walk_at "side") | (simp <;> omega) | decide)
local macro_rules | `(tactic| walk_at "br") => `(tactic| first | (with_reducible first | refine Br.t ?_ | refine Br.f ?_ | (refine Br.dec ?_ ?_ <;> intro _) | (refine Br.ndec ?_ ?_ <;> intro _)) | refine Br.t ?_ | refine Br.f ?_ | (with_reducible refine Br.mk ?_ ?_ <;> intro _))
local macro_rules | `(tactic| walk_at "st") => `(tactic| ((try (conv => whnf)); first
  | walk_at "br"
  | with_reducible (intro _)
  | (refine ⟨_, (by walk_at "has" : Has _ _ _), ?_⟩)
  | (refine ⟨_, (by walk_at "hasl" : HasL _ _ _), ?_⟩)
  | (refine ⟨_, _, (by walk_at "chg" : Chg _ _ _ _ _), ?_⟩)
  | (refine ⟨_, _, _, (by walk_at "chg" : Chg _ _ _ _ _), (by first | rfl | assumption : ixN _ _ = some _), ?_⟩)
  | (refine ⟨_, _, (by walk_at "sel" : Sel _ _ _ _), ?_⟩)
  | (refine ⟨_, (by first | rfl | assumption : atI _ _ = some _), ?_⟩)
  | (refine And.intro (by walk_at "side") ?_)))
local macro_rules | `(tactic| walk_at "st2") => `(tactic| first | walk_at "st" | ((try (conv => whnf)); with_reducible refine And.intro ?_ ?_; rotate_left))
local macro_rules | `(tactic| walk_at "go") => `(tactic| first | ((try (conv => whnf)); walk_at "br" <;> walk_at "go") | (walk_at "st"; walk_at "go") | (conv => whnf) | skip)
theorem rd_sorted_by (cl : Cl) (ds : List D) (F R : LL) (Φ : DK) (h : S_sorted_by cl ds F R Φ) : t_sorted_by cl (endD Φ) (startD 3 ds) (F ++ R) := by
  obtain ⟨q, ms, rfl, rfl, ⟨hz, h1, h4⟩, h⟩ := h
  walk_at "go"
  refine CtOf.mk _ _ (by walk_at "pull") ⟨q, ms, _, rfl, rfl, by omega, ?_⟩
  walk_at "go"
  refine CtOf.mk [] _ .nil ⟨_, _, rfl, rfl, ?_⟩
  walk_at "go"
  refine CtOf.mk _ _ (by walk_at "pull") ⟨_, q, ms, rfl, rfl, ?_⟩
  intro mk la
  walk_at "go"
  refine CtOf.mk _ _ (by walk_at "pull") ⟨_, _, ms.length, by simp; rfl, rfl, hz, ?_⟩
  intro r j st sp
  walk_at "go"
  refine CtOf.mk _ _ (by walk_at "pull") ⟨_, _, r, j, st, sp, mk, la, false, List.range ms.length, [], _, ms, [], rfl, rfl, ⟨by simp; omega, by simp, Row.range ms, fun z => ?_, h4⟩, ?_⟩
  · have z' : 1 < ms.length := by simpa using z
    rw [List.length_range]
    exact ⟨h1 z', by rw [findRun_len (by omega) (by simp), List.length_range]⟩
  intro bz row stk stp
  walk_at "go"
  apply Ret.mk
  rotate_left
  apply h
  rotate_left 11
  walk_at "cov"
theorem rd_count_of (cl : Cl) (ds : List D) (F R : LL) (Φ : DK) (h : S_count_of cl ds F R Φ) : t_count_of cl (endD Φ) (startD 2 ds) (F ++ R) := by
  obtain ⟨q, ms, rfl, rfl, ⟨hz, h1, h4⟩, h⟩ := h
  walk_at "go"
  refine CtOf.mk _ _ (by walk_at "pull") ⟨q, ms, rfl, rfl, ⟨hz, h1, h4⟩, ?_⟩
  intro s a r j st sp mk la bz row stk stp
  walk_at "go"
  refine Ret.int ?_ h (by simp)
  walk_at "cov"
theorem enumD_int {ps : List Int} {i : Nat} {d : D} (h : (enumD (ps.map .int))[i]? = some d) : ∃ x, x ∈ ps ∧ d = .tup [.int (i : Nat), .int x] := by
  obtain ⟨e, he, rfl⟩ := enumD_get h
  rw [List.getElem?_map] at he
  obtain ⟨k, hk, rfl⟩ := Option.map_eq_some_iff.mp he
  exact ⟨k, List.mem_of_getElem? hk, rfl⟩
theorem rd_count_of_falling (cl : Cl) (ds : List D) (F R : LL) (Φ : DK) (h : S_count_of_falling cl ds F R Φ) : t_count_of_falling cl (endD Φ) (startD 4 ds) (F ++ R) := by
  obtain ⟨d, ps, rfl, hd, ⟨h1, h2, h3⟩, h⟩ := h
  rcases hd with ⟨q, rfl, rfl⟩ | ⟨rfl, rfl⟩
  · walk_at "go"
    rotate_left
    · rename_i z1 z2
      simp at z2
      omega
    · rename_i z1
      simp at z1
      omega
    refine ForI.inv (α := Unit) (fun _ _ => [some (.ref q), none, none, none]) (fun _ _ => [(q, intsO ps)] ++ R) (fun _ _ => True) () (by walk_at "sub") .refl trivial ?_ ?_
    · intro i x d hd _
      obtain ⟨e, he, rfl⟩ := enumD_int hd
      refine ⟨by walk_at "hasl", ?_⟩
      walk_at "go"
      refine CtOf.mk [] _ .nil ⟨_, _, _, rfl, rfl, ?_⟩
      rw [show decide (1 ≤ e ∧ e ≤ 1000000000000000000) = true from decide_eq_true (h3 e he)]
      walk_at "go"
      exact Nx1.mk () (by walk_at "sub") .refl trivial
    · intro x _
      refine ⟨by walk_at "hasl", ?_⟩
      walk_at "go"
      · rename_i z
        have z' : ps.length = 1 := by simp at z; omega
        refine ⟨_, atI_int 0 rfl (by omega), ?_⟩
        walk_at "go"
        unfold cof at h
        rw [if_pos z'] at h
        exact Ret.mk _ .refl h
      · have z' : ps.length ≠ 1 := by
          intro e
          rename_i z _ _
          apply z
          simp [e]
        unfold cof at h
        rw [if_neg z'] at h
        refine LcI.pure (ps.drop 1) .int (fun x => .int (2 * (x - 1))) ?_ (fun _ => by walk_at "hasl") (by rw [List.length_drop]; omega) ?_ ?_
        · rw [cutD_from (a := 1) 1 rfl (by rw [List.length_map]; omega)]
          simp
        · intro x hx acc Ψ hΨ
          walk_at "go"
          exact hΨ _ .refl
        · walk_at "go"
          refine ⟨(ps.drop 1).map fun x => 2 * (x - 1), by rw [List.map_map]; rfl, ?_⟩
          walk_at "go"
          refine ⟨_, atI_int 0 rfl (by omega), ?_⟩
          walk_at "go"
          refine ⟨_, atI_int 0 rfl (by omega), ?_⟩
          walk_at "go"
          refine Ret.int ?_ h ?_
          · walk_at "cov"
          · simp
  · walk_at "go"
    rotate_left
    · rename_i z1 z2
      simp at z2
      omega
    · rename_i z1
      simp at z1
      omega
    refine ForI.inv (α := Unit) (fun _ _ => [some (.tup (ps.map .int)), none, none, none]) (fun _ _ => [] ++ R) (fun _ _ => True) () (by walk_at "sub") .refl trivial ?_ ?_
    · intro i x d hd _
      obtain ⟨e, he, rfl⟩ := enumD_int hd
      refine ⟨trivial, ?_⟩
      walk_at "go"
      refine CtOf.mk [] _ .nil ⟨_, _, _, rfl, rfl, ?_⟩
      rw [show decide (1 ≤ e ∧ e ≤ 1000000000000000000) = true from decide_eq_true (h3 e he)]
      walk_at "go"
      exact Nx1.mk () (by walk_at "sub") .refl trivial
    · intro x _
      refine ⟨trivial, ?_⟩
      walk_at "go"
      · rename_i z
        have z' : ps.length = 1 := by simp at z; omega
        refine ⟨_, atI_int 0 rfl (by omega), ?_⟩
        walk_at "go"
        unfold cof at h
        rw [if_pos z'] at h
        exact Ret.mk _ .refl h
      · have z' : ps.length ≠ 1 := by
          intro e
          rename_i z _
          apply z
          simp [e]
        unfold cof at h
        rw [if_neg z'] at h
        refine LcI.pure (ps.drop 1) .int (fun x => .int (2 * (x - 1))) ?_ (fun _ => trivial) (by rw [List.length_drop]; omega) ?_ ?_
        · rw [cutD_from (a := 1) 1 rfl (by rw [List.length_map]; omega)]
          simp
        · intro x hx acc Ψ hΨ
          walk_at "go"
          exact hΨ _ .refl
        · walk_at "go"
          refine ⟨(ps.drop 1).map fun x => 2 * (x - 1), by rw [List.map_map]; rfl, ?_⟩
          walk_at "go"
          refine ⟨_, atI_int 0 rfl (by omega), ?_⟩
          walk_at "go"
          refine ⟨_, atI_int 0 rfl (by omega), ?_⟩
          walk_at "go"
          refine Ret.int ?_ h ?_
          · walk_at "cov"
          · simp
end DL

namespace DL
open PySem PySem.Spec PyProof.Rows L2
local macro_rules | `(tactic| walk_at "has") => `(tactic| first | exact Has.here | (apply Has.there; walk_at "has"))
local macro_rules | `(tactic| walk_at "hasl") => `(tactic| first | (refine Or.inl ?_; walk_at "has") | (refine Or.inr ?_; walk_at "has"))
local macro_rules | `(tactic| walk_at "sel") => `(tactic| first | exact Sel.here | (apply Sel.there; walk_at "sel"))
local macro_rules | `(tactic| walk_at "chg") => `(tactic| first | exact Chg.here | (apply Chg.there; walk_at "chg"))
local macro_rules | `(tactic| walk_at "pull") => `(tactic| first | exact Pull.nil | (apply Pull.cons; (walk_at "sel"); exact rfl; walk_at "pull"))
local macro_rules | `(tactic| walk_at "cov") => `(tactic| first | exact Cov.refl | (apply Cov.take; (walk_at "sel"); (first | exact rfl | assumption); walk_at "cov") | (apply Cov.take; (walk_at "sel"); rotate_left; walk_at "cov") | (refine Cov.drop ?_; walk_at "cov"))
local macro_rules | `(tactic| walk_at "sub") => `(tactic| first | exact Sub.nil | (refine Sub.same (by first | rfl | assumption) ?_; walk_at "sub") | (refine Sub.any ?_; walk_at "sub") | (refine Sub.same ?_ ?_; rotate_left; walk_at "sub"))
local macro_rules | `(tactic| walk_at "side") => `(tactic| first | assumption | rfl | omega | (refine mulOk_r ?_ ?_ <;> first | omega | decide) | (refine mulOk_l ?_ ?_ <;> first | omega | decide) | (refine divOk_of ?_ ?_ <;> first | omega | decide) | (refine ⟨?_, ?_⟩ <;> walk_at "side") | (simp <;> omega) | decide)
local macro_rules | `(tactic| walk_at "br") => `(tactic| first | (with_reducible first | refine Br.t ?_ | refine Br.f ?_ | (refine Br.dec ?_ ?_ <;> intro _) | (refine Br.ndec ?_ ?_ <;> intro _)) | refine Br.t ?_ | refine Br.f ?_ | (with_reducible refine Br.mk ?_ ?_ <;> intro _))
local macro_rules | `(tactic| walk_at "st") => `(tactic| ((try (conv => whnf)); first
  | walk_at "br"
  | with_reducible (intro _)
  | (refine ⟨_, (by walk_at "has" : Has _ _ _), ?_⟩)
  | (refine ⟨_, (by walk_at "hasl" : HasL _ _ _), ?_⟩)
  | (refine ⟨_, _, (by walk_at "chg" : Chg _ _ _ _ _), ?_⟩)
  | (refine ⟨_, _, _, (by walk_at "chg" : Chg _ _ _ _ _), (by first | rfl | assumption : ixN _ _ = some _), ?_⟩)
  | (refine ⟨_, _, (by walk_at "sel" : Sel _ _ _ _), ?_⟩)
  | (refine ⟨_, (by first | rfl | assumption : atI _ _ = some _), ?_⟩)
  | (refine And.intro (by walk_at "side") ?_)))
local macro_rules | `(tactic| walk_at "st2") => `(tactic| first | walk_at "st" | ((try (conv => whnf)); with_reducible refine And.intro ?_ ?_; rotate_left))
local macro_rules | `(tactic| walk_at "go") => `(tactic| first | ((try (conv => whnf)); walk_at "br" <;> walk_at "go") | (walk_at "st"; walk_at "go") | (conv => whnf) | skip)
theorem rd_law_source (cl : Cl) (ds : List D) (F R : LL) (Φ : DK) (h : S_law_source cl ds F R Φ) : t__law_source cl (endD Φ) (startD 1 ds) (F ++ R) := by
  obtain ⟨c, rfl, rfl, h⟩ := h
  walk_at "go"
  rename_i p
  exact Ret.mk _ .refl (h p _ _)
theorem rd_law_draw (cl : Cl) (ds : List D) (F R : LL) (Φ : DK) (h : S_law_draw cl ds F R Φ) : t__law_draw cl (endD Φ) (startD 4 ds) (F ++ R) := by
  obtain ⟨p, a, b, n, z, rfl, rfl, ⟨h1, h2⟩, h⟩ := h
  walk_at "go"
  · rename_i ha
    exact Ret.mk _ .refl (h _ _ _ _ (Int.emod_nonneg _ (by omega)) (Int.emod_lt_of_pos _ h1))
  · exact Ret.mk _ .refl (h _ _ _ _ (Int.emod_nonneg _ (by omega)) (Int.emod_lt_of_pos _ h1))
theorem rd_law_pick (cl : Cl) (ds : List D) (F R : LL) (Φ : DK) (h : S_law_pick cl ds F R Φ) : t__law_pick cl (endD Φ) (startD 2 ds) (F ++ R) := by
  obtain ⟨p, q, a, b, n, xs, rfl, rfl, ⟨h1, h2⟩, h⟩ := h
  walk_at "go"
  refine CtOf.mk _ _ (by walk_at "pull") ⟨p, a, b, n, _, rfl, rfl, by simp; omega, ?_⟩
  intro d a' b' n' g1 g2
  walk_at "go"
  have g2' : d < xs.length := by simpa using g2
  have hd : xs.getD d.toNat 0 ∈ xs := by
    have : d.toNat < xs.length := by omega
    simp [List.getD, List.getElem?_eq_getElem this]
  refine ⟨_, atI_int d.toNat (by omega) (by omega), ?_⟩
  walk_at "go"
  exact Ret.mk _ .refl (h _ _ _ _ hd)
theorem rd_law_due (cl : Cl) (ds : List D) (F R : LL) (Φ : DK) (h : S_law_due cl ds F R Φ) : t__law_due cl (endD Φ) (startD 2 ds) (F ++ R) := by
  obtain ⟨q, ps, rfl, rfl, h1, h⟩ := h
  walk_at "go"
  refine ⟨ps, rfl, ?_⟩
  unfold due at h
  walk_at "go"
  · rename_i z
    have z' : ps.length = 1 := by simp at z; omega
    rw [if_pos z'] at h
    exact Ret.int .refl h rfl
  · have z' : ps.length ≠ 1 := by
      intro e
      rename_i z
      apply z
      simp [e]
    rw [if_neg z'] at h
    refine ⟨_, atI_int 0 rfl (by omega), ?_⟩
    walk_at "go"
    refine ⟨_, atI_int 0 rfl (by omega), ?_⟩
    walk_at "go"
    refine Ret.int .refl h ?_
    simp
theorem Falls.snoc {v : Int} {p : Nat} (hp : 1 ≤ p) : ∀ {ps ks : List Int}, Falls ps ks → (∀ x ∈ ks, v < x) → Falls (ps ++ [(p : Int)]) (ks ++ List.replicate p v)
  | _, _, .nil, _ => by
    have := Falls.one (k := v) hp .nil (fun x hx => by cases hx)
    simpa using this
  | _, _, .one (k := k) (p := p0) (ps := ps) (ks := ks) h1 f hk, hv => by
    have hv0 : v < k := hv k (by simp; omega)
    have := Falls.one (k := k) h1 (Falls.snoc (v := v) hp f fun x hx => hv x (by simp [hx])) fun x hx => by
      rcases List.mem_append.mp hx with hx | hx
      · exact hk x hx
      · rw [(List.mem_replicate.mp hx).2]; exact hv0
    simpa using this
theorem call_draw {cl : Cl} {L R : LL} {Φ : DK} {p : Addr} {a b n z : Int} (hp : Pull L [(p, srcO a b n)] R) (h1 : 0 < z) (h2 : z < 2 ^ 70) (k : ∀ d a' b' n' : Int, 0 ≤ d → d < z → Φ (.int d) ([(p, srcO a' b' n')] ++ R)) : CtOf (S_law_draw cl) [.ref p, .int z] L Φ :=
  ⟨_, _, hp, p, a, b, n, z, rfl, rfl, ⟨h1, h2⟩, k⟩
theorem call_pick {cl : Cl} {L R : LL} {Φ : DK} {p q : Addr} {a b n : Int} (xs : List Int) (hp : Pull L [(p, srcO a b n), (q, intsO xs)] R) (h1 : 0 < xs.length) (h2 : xs.length ≤ 1000) (k : ∀ x a' b' n', x ∈ xs → Φ (.int x) ([(p, srcO a' b' n'), (q, intsO xs)] ++ R)) : CtOf (S_law_pick cl) [.ref p, .ref q] L Φ :=
  ⟨_, _, hp, p, q, a, b, n, xs, rfl, rfl, ⟨h1, h2⟩, k⟩
theorem rd_law_given (cl : Cl) (ds : List D) (F R : LL) (Φ : DK) (h : S_law_given cl ds F R Φ) : t__law_given cl (endD Φ) (startD 5 ds) (F ++ R) := by
  obtain ⟨p, q, a, b, n, ps, rfl, rfl, ⟨h1, h2⟩, h⟩ := h
  walk_at "go"
  rename_i k0
  refine call_draw (by walk_at "pull") (by decide) (by decide) ?_
  intro v0 a0 b0 n0 _ _
  walk_at "go"
  refine ForI.inv (α := Addr × List Int × Int × Int × Int × Int) (fun _ x => [some (.ref p), some (.ref q), none, some (.ref x.1), some (.int x.2.2.1)])
    (fun _ x => [(x.1, intsO x.2.1), (p, srcO x.2.2.2.1 x.2.2.2.2.1 x.2.2.2.2.2), (q, intsO ps)] ++ R)
    (fun i x => Falls (ps.take i) x.2.1 ∧ (∀ y ∈ x.2.1, x.2.2.1 < y) ∧ x.2.1.length ≤ 25 * i) (k0, [], v0, a0, b0, n0) (by walk_at "sub") (by walk_at "cov") ⟨.nil, fun y hy => (by cases hy), Nat.zero_le _⟩ ?_ ?_
  · rintro i ⟨k, ks, v, a, b, n⟩ d hd ⟨g1, g2, g3⟩
    dsimp only at g1 g2 g3 ⊢
    rw [List.getElem?_map] at hd
    obtain ⟨m, hm, rfl⟩ := Option.map_eq_some_iff.mp hd
    have hlt : i < ps.length := (List.getElem?_eq_some_iff.mp hm).1
    obtain ⟨m1, m2⟩ := h2 m (List.mem_of_getElem? hm)
    refine ⟨by walk_at "hasl", ?_⟩
    walk_at "go"
    refine And.intro ?_ ?_
    · rw [repD_one]
      simp
      omega
    walk_at "go"
    rename_i k2 kk
    refine call_pick [1, 3, 100000000000000000000] (by walk_at "pull") (by decide) (by decide) ?_
    intro y a1 b1 n1 hy
    have hy2 : 0 < y ∧ y < 2 ^ 70 := by
      simp at hy
      omega
    walk_at "go"
    refine call_draw (by walk_at "pull") hy2.1 hy2.2 ?_
    intro e a2 b2 n2 e1 e2
    walk_at "go"
    obtain ⟨mn, rfl⟩ : ∃ mn : Nat, m = (mn : Int) := ⟨m.toNat, by omega⟩
    refine Nx1.mk (k2, ks ++ List.replicate mn v, v - 1 - e, a2, b2, n2) (by walk_at "sub") ?_ ⟨?_, ?_, ?_⟩
    · walk_at "cov"
      rw [repD_one]
      simp
    · rw [List.take_add_one, hm]
      exact g1.snoc (by omega) g2
    · intro y hy
      dsimp only at hy ⊢
      rcases List.mem_append.mp hy with hy | hy
      · have := g2 y hy
        omega
      · rw [(List.mem_replicate.mp hy).2]
        omega
    · dsimp only
      rw [List.length_append, List.length_replicate]
      omega
  · rintro ⟨k, ks, v, a, b, n⟩ ⟨g1, g2, g3⟩
    dsimp only at g1 g2 g3 ⊢
    refine ⟨by walk_at "hasl", ?_⟩
    walk_at "go"
    rw [List.length_map, List.take_length] at g1
    exact Ret.mk _ .refl (h _ _ _ _ _ g1)
theorem rgD_int {lo hi : Int} {i : Nat} {d : D} (h : (rgD lo hi)[i]? = some d) : ∃ j : Int, d = .int j := by
  unfold rgD at h
  rw [List.getElem?_map] at h
  obtain ⟨x, _, rfl⟩ := Option.map_eq_some_iff.mp h
  exact ⟨_, rfl⟩
/-! the numbers: due is count_of_falling -/
theorem sum_twice : ∀ (ps : List Int), (ps.map fun x => 2 * (x - 1)).sum = 2 * ps.sum - 2 * ps.length
  | [] => rfl
  | x :: r => by
    simp only [List.map_cons, List.sum_cons, List.length_cons]
    rw [sum_twice r]
    omega
theorem cof_due (ps : List Int) (h : 1 ≤ ps.length) : cof ps = due ps := by
  cases ps with
  | nil => simp at h
  | cons x r =>
    unfold cof due
    by_cases e : r = []
    · subst e
      simp
    · have hl : (x :: r).length ≠ 1 := by
        simp only [List.length_cons]
        intro z
        exact e (List.length_eq_zero_iff.mp (by omega))
      rw [if_neg hl, if_neg hl]
      simp only [List.drop_succ_cons, List.drop_zero, sum_twice, List.getD_cons_zero, List.sum_cons, List.length_cons]
      split <;> omega
end DL

/-! k77: what a row of falling stretches is asked -/
namespace DL
open PySem PySem.Spec PyProof.Rows L2
theorem turnN_get {row : List Nat} {s e j : Nat} (h1 : s ≤ e) (h2 : e ≤ row.length) (h3 : e ≤ j) : (turnN row s e).getD j 0 = row.getD j 0 := by
  unfold turnN
  simp only [List.getD]
  rw [List.getElem?_append_right (by simp; omega)]
  rw [List.getElem?_drop]
  congr 2
  simp
  omega
theorem turnE_get {row : List Nat} {p q j : Nat} (h2 : p ≤ row.length) (h3 : p ≤ j) : (turnE row p q).getD j 0 = row.getD j 0 := by
  unfold turnE
  split
  · exact turnN_get (by omega) h2 h3
  · rfl
theorem range_get {n j : Nat} (h : j < n) : (List.range n).getD j 0 = j := by
  simp [List.getD, h]
/-- what a falling row is asked: one question at a step down, two at a step of equals -/
def cst : List Int → Nat
  | [] => 0
  | [_] => 0
  | x :: y :: r => (if y < x then 1 else 2) + cst (y :: r)
def Down (ks : List Int) : Prop := ∀ p, 1 ≤ p → p < ks.length → ks.getD p 0 ≤ ks.getD (p - 1) 0
theorem drop_two {ks : List Int} {p : Nat} (h1 : 1 ≤ p) (h2 : p < ks.length) : ks.drop (p - 1) = ks.getD (p - 1) 0 :: ks.getD p 0 :: ks.drop (p + 1) := by
  have a : p - 1 < ks.length := by omega
  rw [List.drop_eq_getElem_cons a]
  have e : p - 1 + 1 = p := by omega
  rw [e, List.drop_eq_getElem_cons h2]
  simp [List.getD, List.getElem?_eq_getElem a, List.getElem?_eq_getElem h2]
theorem cst_drop {ks : List Int} {p : Nat} (h1 : 1 ≤ p) (h2 : p < ks.length) : cst (ks.drop (p - 1)) = (if ks.getD p 0 < ks.getD (p - 1) 0 then 1 else 2) + cst (ks.drop p) := by
  have e : ks.drop p = ks.getD p 0 :: ks.drop (p + 1) := by
    rw [List.drop_eq_getElem_cons h2]
    simp [List.getD, List.getElem?_eq_getElem h2]
  rw [drop_two h1 h2, e]
  rfl
theorem falling_down {ks : List Int} (hd : Down ks) : ∀ f p q row l, f = ks.length - p → 1 ≤ p → p ≤ ks.length → row.length = ks.length → (∀ j, p - 1 ≤ j → j < ks.length → row.getD j 0 = j) →
    (falling ks ks.length f p q row l).1 = ks.length ∧ (falling ks ks.length f p q row l).2.2.length = l.length + cst (ks.drop (p - 1))
  | 0, p, q, row, l, hf, h1, h2, hl, hr => by
    have e : p = ks.length := by omega
    subst e
    refine ⟨rfl, ?_⟩
    have : ks.drop (ks.length - 1) = [ks.getD (ks.length - 1) 0] := by
      have a : ks.length - 1 < ks.length := by omega
      rw [List.drop_eq_getElem_cons a, List.drop_eq_nil_of_le (by omega)]
      simp [List.getD, List.getElem?_eq_getElem a]
    rw [this]
    rfl
  | f + 1, p, q, row, l, hf, h1, h2, hl, hr => by
    have hp : p < ks.length := by omega
    have hq := hd p h1 hp
    unfold falling
    rw [if_pos hp, hr p (by omega) hp, hr (p - 1) (Nat.le_refl _) (by omega)]
    rw [cst_drop h1 hp]
    by_cases hc : ks.getD p 0 < ks.getD (p - 1) 0
    · have e1 : lessN ks p (p - 1) = true := decide_eq_true hc
      rw [if_pos e1, if_pos hc]
      have ih := falling_down hd f (p + 1) 0 (turnE row p q) (l ++ [(p, p - 1, true)]) (by omega) (by omega) (by omega) (by rw [turnE_length (by omega)]; exact hl) fun j h3 h4 => by
        rw [turnE_get (by omega) (by omega)]
        exact hr j (by omega) h4
      refine ⟨ih.1, ?_⟩
      rw [ih.2]
      simp only [List.length_append, List.length_singleton, Nat.add_sub_cancel]
      omega
    · have e1 : lessN ks p (p - 1) = false := decide_eq_false hc
      have e2 : lessN ks (p - 1) p = false := decide_eq_false (by
        show ¬ (ks.getD (p - 1) 0 < ks.getD p 0)
        omega)
      rw [e1, e2, if_neg Bool.false_ne_true, if_neg Bool.false_ne_true, if_neg hc]
      have ih := falling_down hd f (p + 1) (q + 1) row ((l ++ [(p, p - 1, false)]) ++ [(p - 1, p, false)]) (by omega) (by omega) (by omega) hl fun j h3 h4 => hr j (by omega) h4
      refine ⟨ih.1, ?_⟩
      rw [ih.2]
      simp only [List.length_append, List.length_singleton, Nat.add_sub_cancel]
      omega
section
variable {m : Nat} {k : Int} {ks : List Int}
theorem rep_get (hm : 1 ≤ m) {p : Nat} (hp : p < m) : (List.replicate m k ++ ks).getD p 0 = k := by
  simp only [List.getD]
  rw [List.getElem?_append_left (by simpa using hp), List.getElem?_replicate, if_pos hp]
  rfl
theorem rep_get2 {p : Nat} (hp : m ≤ p) : (List.replicate m k ++ ks).getD p 0 = ks.getD (p - m) 0 := by
  simp only [List.getD]
  rw [List.getElem?_append_right (by simpa using hp)]
  simp
theorem cst_rep (hk : ∀ x ∈ ks, x < k) : ∀ {m : Nat}, 1 ≤ m → cst (List.replicate m k ++ ks) = 2 * (m - 1) + (if ks = [] then 0 else 1 + cst ks)
  | 1, _ => by
    cases ks with
    | nil => rfl
    | cons y r =>
      have : y < k := hk y (by simp)
      show (if y < k then 1 else 2) + cst (y :: r) = _
      rw [if_pos this]
      simp
  | m + 2, _ => by
    have ih := cst_rep hk (m := m + 1) (by omega)
    rw [List.replicate_succ, List.replicate_succ, List.cons_append, List.cons_append]
    show (if k < k then 1 else 2) + cst (k :: (List.replicate m k ++ ks)) = _
    rw [List.replicate_succ, List.cons_append] at ih
    rw [ih, if_neg (by omega)]
    omega
theorem rising_rep (hm : 1 ≤ m) (hk : ∀ x ∈ ks, x < k) : ∀ f p l, f = m + ks.length - p → 1 ≤ p → p ≤ m →
    (rising (List.replicate m k ++ ks) (List.range (m + ks.length)) (m + ks.length) f p l).1 = m ∧ (rising (List.replicate m k ++ ks) (List.range (m + ks.length)) (m + ks.length) f p l).2.length = l.length + (m - p) + (if ks = [] then 0 else 1)
  | 0, p, l, hf, h1, h2 => by
    have e : ks = [] := List.length_eq_zero_iff.mp (by omega)
    subst e
    have : p = m := by simp at hf; omega
    subst this
    exact ⟨rfl, by simp [rising]⟩
  | f + 1, p, l, hf, h1, h2 => by
    unfold rising
    rw [if_pos (by omega), range_get (by omega), range_get (by omega)]
    by_cases hp : p < m
    · have e1 : lessN (List.replicate m k ++ ks) p (p - 1) = false := decide_eq_false (by
        unfold keyN
        rw [rep_get hm hp, rep_get hm (by omega)]
        omega)
      rw [e1, if_neg Bool.false_ne_true]
      have ih := rising_rep hm hk f (p + 1) (l ++ [(p, p - 1, false)]) (by omega) (by omega) (by omega)
      refine ⟨ih.1, ?_⟩
      rw [ih.2]
      simp only [List.length_append, List.length_singleton]
      omega
    · have e : p = m := by omega
      subst e
      have hn : ks ≠ [] := fun z => by subst z; simp at hf
      have h0 : 0 < ks.length := by omega
      have e1 : lessN (List.replicate p k ++ ks) p (p - 1) = true := decide_eq_true (by
        unfold keyN
        rw [rep_get2 (Nat.le_refl _), rep_get hm (by omega), Nat.sub_self]
        refine hk _ ?_
        simp [List.getD, List.getElem?_eq_getElem h0])
      rw [if_pos e1, if_neg hn]
      exact ⟨rfl, by simp⟩
end
theorem Falls.down : ∀ {ps ks : List Int}, Falls ps ks → Down ks
  | _, _, .nil => fun p _ h => by simp at h
  | _, _, .one (k := k) (p := m) (ks := ks) hm f hk => fun p h1 h2 => by
    rw [List.length_append, List.length_replicate] at h2
    rcases Nat.lt_trichotomy p m with h | h | h
    · rw [rep_get hm h, rep_get hm (by omega)]
      exact Int.le_refl _
    · subst h
      rw [rep_get2 (Nat.le_refl _), rep_get hm (by omega), Nat.sub_self]
      have h0 : 0 < ks.length := by omega
      refine Int.le_of_lt (hk _ ?_)
      simp [List.getD, List.getElem?_eq_getElem h0]
    · rw [rep_get2 (by omega), rep_get2 (by omega)]
      have := f.down (p - m) (by omega) (by omega)
      rw [show p - 1 - m = p - m - 1 by omega]
      exact this
theorem Falls.len : ∀ {ps ks : List Int}, Falls ps ks → (ks.length : Int) = ps.sum
  | _, _, .nil => rfl
  | _, _, .one (k := k) (p := m) (ks := ks) hm f hk => by
    rw [List.length_append, List.length_replicate, List.sum_cons, ← f.len]
    omega
theorem Falls.nil_iff : ∀ {ps ks : List Int}, Falls ps ks → (ks = [] ↔ ps = [])
  | _, _, .nil => by simp
  | _, _, .one (k := k) (p := m) (ks := ks) hm f hk => by
    constructor
    · intro h
      have : m + ks.length = 0 := by
        have := congrArg List.length h
        simpa using this
      omega
    · intro h
      cases h
theorem Falls.cst : ∀ {ps ks : List Int}, Falls ps ks → ps ≠ [] → (cst ks : Int) = 2 * ps.sum - ps.length - 1
  | _, _, .nil, h => absurd rfl h
  | _, _, .one (k := k) (p := m) (ps := ps) (ks := ks) hm f hk, _ => by
    rw [cst_rep hk hm, List.sum_cons, List.length_cons]
    have e := f.nil_iff
    by_cases h : ps = []
    · rw [if_pos (e.mpr h)]
      subst h
      simp
      omega
    · rw [if_neg fun z => h (e.mp z)]
      have := f.cst h
      push_cast
      omega
theorem Falls.run {ps ks : List Int} (f : Falls ps ks) (hps : ps ≠ []) : OneRun ks ∧ ((runLog ks (List.range ks.length) []).length : Int) = due ps := by
  cases f with
  | nil => exact absurd rfl hps
  | @one k m ps ks hm f hk =>
    have fd := (Falls.one (k := k) hm f hk).down
    have hnil := f.nil_iff
    have hl : (List.replicate m k ++ ks).length = m + ks.length := by simp
    have rr := rising_rep (m := m) (k := k) (ks := ks) hm hk (m + ks.length - (0 + 1)) 1 [] (by omega) (by omega) hm
    -- the run
    have key : 1 < m + ks.length → (findRun (List.replicate m k ++ ks) (List.range (m + ks.length)) 0 (m + ks.length) []).1 = m + ks.length ∧
        ((findRun (List.replicate m k ++ ks) (List.range (m + ks.length)) 0 (m + ks.length) []).2.2.length : Int) = due ((m : Int) :: ps) := by
      intro hn
      unfold findRun
      rw [show (0 : Nat) + 1 = 1 from rfl] at rr ⊢
      obtain ⟨r1, r2⟩ := rr
      generalize rising (List.replicate m k ++ ks) (List.range (m + ks.length)) (m + ks.length) (m + ks.length - 1) 1 [] = z at *
      obtain ⟨p, l⟩ := z
      dsimp only at r1 r2 ⊢
      subst r1
      unfold runAt
      by_cases he : ks = []
      · subst he
        have hp0 : ps = [] := hnil.mp rfl
        subst hp0
        simp only [List.length_nil, Nat.add_zero, if_pos]
        refine ⟨by simp, ?_⟩
        rw [r2]
        unfold due
        simp
        omega
      · have h0 : 0 < ks.length := List.length_pos_iff.mpr he
        have hp0 : ps ≠ [] := fun z => he (hnil.mpr z)
        have h1 : 0 < ps.length := List.length_pos_iff.mpr hp0
        rw [if_neg he] at r2
        rw [if_neg (by omega)]
        have on : ∀ row l2, row.length = p + ks.length → (∀ j, p ≤ j → j < p + ks.length → row.getD j 0 = j) →
            (runOn (List.replicate p k ++ ks) (p + ks.length) 0 p row l2).1 = p + ks.length ∧ ((runOn (List.replicate p k ++ ks) (p + ks.length) 0 p row l2).2.2.length : Int) = l2.length + (2 * ps.sum - ps.length - 1) := by
          intro row l2 hrow hget
          have q := falling_down fd ((List.replicate p k ++ ks).length - (p + 1)) (p + 1) 0 row l2 rfl (by omega) (by omega) (by omega) fun j a b => hget j (by omega) (by omega)
          rw [hl] at q
          unfold runOn
          obtain ⟨q1, q2⟩ := q
          rw [show p + 1 - 1 = p by omega] at q2
          have hdrop : (List.replicate p k ++ ks).drop p = ks := by simp
          rw [hdrop] at q2
          rw [q1, Nat.sub_self]
          dsimp only [rising]
          refine ⟨by omega, ?_⟩
          rw [q2]
          have := f.cst hp0
          push_cast
          omega
        have fin : ∀ c : Int, c = p + (if (1 : Int) < p then 1 else 0) + (2 * ps.sum - ps.length - 1) → c = due ((p : Int) :: ps) := by
          intro c hc
          unfold due
          rw [if_neg (by simp only [List.length_cons]; omega)]
          simp only [List.sum_cons, List.getD_cons_zero, List.length_cons]
          push_cast
          omega
        by_cases hm1 : 1 < p - 0
        · rw [if_pos hm1]
          have e1 : lessN (List.replicate p k ++ ks) ((List.range (p + ks.length)).getD 0 0) ((List.range (p + ks.length)).getD (p - 1) 0) = false := decide_eq_false (by
            rw [range_get (by omega), range_get (by omega)]
            unfold keyN
            rw [rep_get hm (by omega), rep_get hm (by omega)]
            omega)
          rw [e1, if_neg Bool.false_ne_true]
          obtain ⟨o1, o2⟩ := on (turnN (List.range (p + ks.length)) 0 p) (l ++ [((List.range (p + ks.length)).getD 0 0, (List.range (p + ks.length)).getD (p - 1) 0, false)]) (by rw [turnN_length (by omega) (by simp)]; simp) fun j a b => by
            rw [turnN_get (by omega) (by simp) a]
            exact range_get b
          refine ⟨o1, fin _ ?_⟩
          rw [o2, List.length_append, r2, if_pos (by omega)]
          simp
          omega
        · rw [if_neg hm1]
          obtain ⟨o1, o2⟩ := on (List.range (p + ks.length)) l (by simp) fun j a b => range_get b
          refine ⟨o1, fin _ ?_⟩
          rw [o2, r2, if_neg (by omega)]
          simp
          omega
    refine ⟨fun h => ?_, ?_⟩
    · rw [hl] at h ⊢
      exact (key h).1
    · unfold runLog
      rw [List.length_range, hl]
      by_cases h : 1 < m + ks.length
      · rw [if_pos h]
        exact (key h).2
      · rw [if_neg h]
        have hk0 : ks = [] := List.length_eq_zero_iff.mp (by omega)
        have hp0 : ps = [] := hnil.mp hk0
        have hm1 : m = 1 := by omega
        subst hp0 hm1
        unfold due
        simp
end DL

namespace DL
open PySem PySem.Spec PyProof.Rows L2
local macro_rules | `(tactic| walk_at "has") => `(tactic| first | exact Has.here | (apply Has.there; walk_at "has"))
local macro_rules | `(tactic| walk_at "hasl") => `(tactic| first | (refine Or.inl ?_; walk_at "has") | (refine Or.inr ?_; walk_at "has"))
local macro_rules | `(tactic| walk_at "sel") => `(tactic| first | exact Sel.here | (apply Sel.there; walk_at "sel"))
local macro_rules | `(tactic| walk_at "chg") => `(tactic| first | exact Chg.here | (apply Chg.there; walk_at "chg"))
local macro_rules | `(tactic| walk_at "pull") => `(tactic| first | exact Pull.nil | (apply Pull.cons; (walk_at "sel"); exact rfl; walk_at "pull"))
local macro_rules | `(tactic| walk_at "cov") => `(tactic| first | exact Cov.refl | (apply Cov.take; (walk_at "sel"); (first | exact rfl | assumption); walk_at "cov") | (apply Cov.take; (walk_at "sel"); rotate_left; walk_at "cov") | (refine Cov.drop ?_; walk_at "cov"))
local macro_rules | `(tactic| walk_at "sub") => `(tactic| first | exact Sub.nil | (refine Sub.same (by first | rfl | assumption) ?_; walk_at "sub") | (refine Sub.any ?_; walk_at "sub") | (refine Sub.same ?_ ?_; rotate_left; walk_at "sub"))
local macro_rules | `(tactic| walk_at "side") => `(tactic| first | assumption | rfl | omega | (refine mulOk_r ?_ ?_ <;> first | omega | decide) | (refine mulOk_l ?_ ?_ <;> first | omega | decide) | (refine divOk_of ?_ ?_ <;> first | omega | decide) | (refine ⟨?_, ?_⟩ <;> walk_at "side") | (simp <;> omega) | decide)
local macro_rules | `(tactic| walk_at "br") => `(tactic| first | (with_reducible first | refine Br.t ?_ | refine Br.f ?_ | (refine Br.dec ?_ ?_ <;> intro _) | (refine Br.ndec ?_ ?_ <;> intro _)) | refine Br.t ?_ | refine Br.f ?_ | (with_reducible refine Br.mk ?_ ?_ <;> intro _))
local macro_rules | `(tactic| walk_at "st") => `(tactic| ((try (conv => whnf)); first
  | walk_at "br"
  | with_reducible (intro _)
  | (refine ⟨_, (by walk_at "has" : Has _ _ _), ?_⟩)
  | (refine ⟨_, (by walk_at "hasl" : HasL _ _ _), ?_⟩)
  | (refine ⟨_, _, (by walk_at "chg" : Chg _ _ _ _ _), ?_⟩)
  | (refine ⟨_, _, _, (by walk_at "chg" : Chg _ _ _ _ _), (by first | rfl | assumption : ixN _ _ = some _), ?_⟩)
  | (refine ⟨_, _, (by walk_at "sel" : Sel _ _ _ _), ?_⟩)
  | (refine ⟨_, (by first | rfl | assumption : atI _ _ = some _), ?_⟩)
  | (refine And.intro (by walk_at "side") ?_)))
local macro_rules | `(tactic| walk_at "st2") => `(tactic| first | walk_at "st" | ((try (conv => whnf)); with_reducible refine And.intro ?_ ?_; rotate_left))
local macro_rules | `(tactic| walk_at "go") => `(tactic| first | ((try (conv => whnf)); walk_at "br" <;> walk_at "go") | (walk_at "st"; walk_at "go") | (conv => whnf) | skip)
theorem cst_le : ∀ ks : List Int, cst ks ≤ 2 * ks.length
  | [] => by decide
  | [_] => by simp [cst]
  | x :: y :: r => by
    have := cst_le (y :: r)
    unfold cst
    simp only [List.length_cons] at this ⊢
    split <;> omega
theorem due_le {ps : List Int} (h1 : ps.length ≤ 12) (h2 : ∀ x ∈ ps, 1 ≤ x ∧ x ≤ 25) : due ps ≤ 1000 := by
  have hs : ∀ ps : List Int, (∀ x ∈ ps, 1 ≤ x ∧ x ≤ 25) → ps.sum ≤ 25 * ps.length ∧ 0 ≤ ps.sum := by
    intro ps
    induction ps with
    | nil => intro _; simp
    | cons x r ih =>
      intro h
      have a := h x (by simp)
      have b := ih fun y hy => h y (by simp [hy])
      simp only [List.sum_cons, List.length_cons]
      push_cast
      omega
  have a := hs ps h2
  unfold due
  split
  · omega
  · have h0 : 0 ≤ ps.getD 0 0 := by
      cases ps with
      | nil => simp
      | cons x r =>
        have := (h2 x (by simp)).1
        simp
        omega
    split <;> omega
theorem rd_law_right (cl : Cl) (ds : List D) (F R : LL) (Φ : DK) (h : S_law_right cl ds F R Φ) : t__law_right cl (endD Φ) (startD 5 ds) (F ++ R) := by
  obtain ⟨p, a, b, n, rfl, rfl, h⟩ := h
  walk_at "go"
  refine call_draw (by walk_at "pull") (by decide) (by decide) ?_
  intro v0 a0 b0 n0 _ _
  walk_at "go"
  rename_i P
  refine LcI.inv (α := List Int × Int × Int × Int) (fun _ x => [(P, intsO x.1), (p, srcO x.2.1 x.2.2.1 x.2.2.2)] ++ R) (fun i x => x.1.length = i ∧ ∀ y ∈ x.1, 1 ≤ y ∧ y ≤ 25) ([], a0, b0, n0) (by walk_at "cov") ⟨rfl, fun y hy => (by cases hy)⟩ ?_ ?_
  · rintro i ⟨xs, a, b, n⟩ d hd ⟨g1, g2⟩
    dsimp only at g1 g2 ⊢
    obtain ⟨j, rfl⟩ := rgD_int hd
    have hi : i < (rgD 0 (1 + v0)).length := (List.getElem?_eq_some_iff.mp hd).1
    rw [rgD_length] at hi
    refine ⟨trivial, ?_⟩
    walk_at "go"
    refine call_pick [1, 2, 4, 25] (by walk_at "pull") (by decide) (by decide) ?_
    intro y a1 b1 n1 hy
    have hy2 : 0 < y ∧ y ≤ 25 := by
      simp at hy
      omega
    walk_at "go"
    refine call_draw (by walk_at "pull") hy2.1 (by omega) ?_
    intro e a2 b2 n2 e1 e2
    walk_at "go"
    refine NxL.mk (xs ++ [1 + e], a2, b2, n2) ?_ ⟨by simp [g1], ?_⟩
    · walk_at "cov"
      simp
    · intro z hz
      dsimp only at hz
      rcases List.mem_append.mp hz with hz | hz
      · exact g2 z hz
      · simp at hz
        omega
  · rintro ⟨ps, a, b, n⟩ ⟨g1, g2⟩
    dsimp only at g1 g2 ⊢
    rw [rgD_length] at g1
    have hl : 1 ≤ ps.length := by omega
    have hl2 : ps.length ≤ 12 := by omega
    have h3 : ∀ x ∈ ps, 1 ≤ x ∧ x ≤ 1000000000000000000 := fun x hx => ⟨(g2 x hx).1, by have := (g2 x hx).2; omega⟩
    refine ⟨trivial, ?_⟩
    walk_at "go"
    refine CtOf.mk _ _ (by walk_at "pull") ⟨P, ps, rfl, rfl, by omega, ?_⟩
    walk_at "go"
    refine CtOf.mk [(P, intsO ps)] _ (by walk_at "pull") ⟨_, ps, rfl, .inl ⟨P, rfl, rfl⟩, ⟨hl, by omega, h3⟩, ?_⟩
    rw [cof_due ps hl]
    walk_at "go"
    · exact absurd rfl ‹¬ due ps = due ps›
    refine CtOf.mk [] _ .nil ⟨_, ps, rfl, .inr ⟨rfl, rfl⟩, ⟨hl, by omega, h3⟩, ?_⟩
    rw [cof_due ps hl]
    walk_at "go"
    · exact absurd rfl ‹¬ due ps = due ps›
    refine deepE.ints (xs := ps) (ys := ps) (by walk_at "hasl") (by walk_at "hasl") ?_
    rw [decide_eq_true rfl]
    walk_at "go"
    refine CtOf.mk _ _ (by walk_at "pull") ⟨p, P, a, b, n, ps, rfl, rfl, ⟨hl2, g2⟩, ?_⟩
    intro q ks a' b' n' hf
    obtain ⟨f1, f2⟩ := hf.run (fun z => by subst z; simp at hl)
    have dl := due_le hl2 g2
    walk_at "go"
    refine CtOf.mk _ _ (by walk_at "pull") ⟨q, ks, rfl, rfl, ⟨?_, f1, ?_⟩, ?_⟩
    · have := hf.len
      have hs : ∀ ps : List Int, (∀ x ∈ ps, 1 ≤ x ∧ x ≤ 25) → ps.sum ≤ 25 * ps.length := by
        intro ps
        induction ps with
        | nil => intro _; simp
        | cons x r ih =>
          intro h
          have a := h x (by simp)
          have b := ih fun y hy => h y (by simp [hy])
          simp only [List.sum_cons, List.length_cons]
          push_cast
          omega
      have := hs ps g2
      omega
    · omega
    rw [f2]
    walk_at "go"
    refine Ret.bl ?_ (h a' b' n') ?_
    · walk_at "cov"
    · simp
end DL

namespace DL
open PySem PySem.Spec PyProof.Rows L2
local macro_rules | `(tactic| walk_at "has") => `(tactic| first | exact Has.here | (apply Has.there; walk_at "has"))
local macro_rules | `(tactic| walk_at "hasl") => `(tactic| first | (refine Or.inl ?_; walk_at "has") | (refine Or.inr ?_; walk_at "has"))
local macro_rules | `(tactic| walk_at "sel") => `(tactic| first | exact Sel.here | (apply Sel.there; walk_at "sel"))
local macro_rules | `(tactic| walk_at "chg") => `(tactic| first | exact Chg.here | (apply Chg.there; walk_at "chg"))
local macro_rules | `(tactic| walk_at "pull") => `(tactic| first | exact Pull.nil | (apply Pull.cons; (walk_at "sel"); exact rfl; walk_at "pull"))
local macro_rules | `(tactic| walk_at "cov") => `(tactic| first | exact Cov.refl | (apply Cov.take; (walk_at "sel"); (first | exact rfl | assumption); walk_at "cov") | (apply Cov.take; (walk_at "sel"); rotate_left; walk_at "cov") | (refine Cov.drop ?_; walk_at "cov"))
local macro_rules | `(tactic| walk_at "sub") => `(tactic| first | exact Sub.nil | (refine Sub.same (by first | rfl | assumption) ?_; walk_at "sub") | (refine Sub.any ?_; walk_at "sub") | (refine Sub.same ?_ ?_; rotate_left; walk_at "sub"))
local macro_rules | `(tactic| walk_at "side") => `(tactic| first | assumption | rfl | omega | (refine mulOk_r ?_ ?_ <;> first | omega | decide) | (refine mulOk_l ?_ ?_ <;> first | omega | decide) | (refine divOk_of ?_ ?_ <;> first | omega | decide) | (refine ⟨?_, ?_⟩ <;> walk_at "side") | (simp <;> omega) | decide)
local macro_rules | `(tactic| walk_at "br") => `(tactic| first | (with_reducible first | refine Br.t ?_ | refine Br.f ?_ | (refine Br.dec ?_ ?_ <;> intro _) | (refine Br.ndec ?_ ?_ <;> intro _)) | refine Br.t ?_ | refine Br.f ?_ | (with_reducible refine Br.mk ?_ ?_ <;> intro _))
local macro_rules | `(tactic| walk_at "st") => `(tactic| ((try (conv => whnf)); first
  | walk_at "br"
  | with_reducible (intro _)
  | (refine ⟨_, (by walk_at "has" : Has _ _ _), ?_⟩)
  | (refine ⟨_, (by walk_at "hasl" : HasL _ _ _), ?_⟩)
  | (refine ⟨_, _, (by walk_at "chg" : Chg _ _ _ _ _), ?_⟩)
  | (refine ⟨_, _, _, (by walk_at "chg" : Chg _ _ _ _ _), (by first | rfl | assumption : ixN _ _ = some _), ?_⟩)
  | (refine ⟨_, _, (by walk_at "sel" : Sel _ _ _ _), ?_⟩)
  | (refine ⟨_, (by first | rfl | assumption : atI _ _ = some _), ?_⟩)
  | (refine And.intro (by walk_at "side") ?_)))
local macro_rules | `(tactic| walk_at "st2") => `(tactic| first | walk_at "st" | ((try (conv => whnf)); with_reducible refine And.intro ?_ ?_; rotate_left))
local macro_rules | `(tactic| walk_at "go") => `(tactic| first | ((try (conv => whnf)); walk_at "br" <;> walk_at "go") | (walk_at "st"; walk_at "go") | (conv => whnf) | skip)
theorem rd_law_great_right (cl : Cl) (ds : List D) (F R : LL) (Φ : DK) (h : S_law_right cl ds F R Φ) : t__law_great_right cl (endD Φ) (startD 4 ds) (F ++ R) := by
  obtain ⟨p, a, b, n, rfl, rfl, h⟩ := h
  walk_at "go"
  refine call_pick [3, 20, 300] (by walk_at "pull") (by decide) (by decide) ?_
  intro y0 a0 b0 n0 hy0
  have hy2 : 0 < y0 ∧ y0 ≤ 300 := by
    simp at hy0
    omega
  walk_at "go"
  refine call_draw (by walk_at "pull") hy2.1 (by omega) ?_
  intro v0 a0 b0 n0 _ _
  walk_at "go"
  rename_i P
  refine LcI.inv (α := List Int × Int × Int × Int) (fun _ x => [(P, intsO x.1), (p, srcO x.2.1 x.2.2.1 x.2.2.2)] ++ R) (fun i x => x.1.length = i ∧ ∀ y ∈ x.1, 1 ≤ y ∧ y ≤ 1000000000000000000) ([], a0, b0, n0) (by walk_at "cov") ⟨rfl, fun y hy => (by cases hy)⟩ ?_ ?_
  · rintro i ⟨xs, a, b, n⟩ d hd ⟨g1, g2⟩
    dsimp only at g1 g2 ⊢
    obtain ⟨j, rfl⟩ := rgD_int hd
    have hi : i < (rgD 0 (1 + v0)).length := (List.getElem?_eq_some_iff.mp hd).1
    rw [rgD_length] at hi
    refine ⟨trivial, ?_⟩
    walk_at "go"
    refine call_pick [1, 5, 1000000000, 1000000000000000000] (by walk_at "pull") (by decide) (by decide) ?_
    intro y a1 b1 n1 hy
    have hy2 : 0 < y ∧ y ≤ 1000000000000000000 := by
      simp at hy
      omega
    walk_at "go"
    refine call_draw (by walk_at "pull") hy2.1 (by omega) ?_
    intro e a2 b2 n2 e1 e2
    walk_at "go"
    refine NxL.mk (xs ++ [1 + e], a2, b2, n2) ?_ ⟨by simp [g1], ?_⟩
    · walk_at "cov"
      simp
    · intro z hz
      dsimp only at hz
      rcases List.mem_append.mp hz with hz | hz
      · exact g2 z hz
      · simp at hz
        omega
  · rintro ⟨ps, a, b, n⟩ ⟨g1, g2⟩
    dsimp only at g1 g2 ⊢
    rw [rgD_length] at g1
    have hl : 1 ≤ ps.length := by omega
    refine ⟨trivial, ?_⟩
    walk_at "go"
    refine CtOf.mk [(P, intsO ps)] _ (by walk_at "pull") ⟨_, ps, rfl, .inl ⟨P, rfl, rfl⟩, ⟨hl, by omega, g2⟩, ?_⟩
    rw [cof_due ps hl]
    walk_at "go"
    refine CtOf.mk _ _ (by walk_at "pull") ⟨P, ps, rfl, rfl, by omega, ?_⟩
    walk_at "go"
    refine Ret.bl ?_ (h a b n) ?_
    · walk_at "cov"
    · simp
theorem call_cof {cl : Cl} {L R : LL} {Φ : DK} {p : Addr} {ps : List Int} (hp : Pull L [(p, intsO ps)] R) (h1 : 1 ≤ ps.length) (h2 : ps.length ≤ 300) (h3 : ∀ x ∈ ps, 1 ≤ x ∧ x ≤ 1000000000000000000) (k : Φ (.int (cof ps)) ([(p, intsO ps)] ++ R)) : CtOf (S_count_of_falling cl) [.ref p] L Φ :=
  ⟨_, _, hp, _, ps, rfl, .inl ⟨p, rfl, rfl⟩, ⟨h1, h2, h3⟩, k⟩
theorem ints_app (xs ys : List Int) : xs.map D.int ++ ys.map D.int = (xs ++ ys).map D.int := by simp
theorem rd_law (cl : Cl) (ds : List D) (F R : LL) (Φ : DK) (h : S_law cl ds F R Φ) : t_law cl (endD Φ) (startD 5 ds) (F ++ R) := by
  obtain ⟨q, ms, rfl, rfl, hz, h⟩ := h
  walk_at "go"


  walk_at "go"
  rename_i k0 k1 t
  rw [cutD_toAny (b := 3) 3 rfl]
  have ei : (ms.map D.int ++ [D.int 0]).take 3 = ((ms ++ [0]).take 3).map .int := by simp
  rw [ei]
  generalize (ms ++ [0]).take 3 = cs
  refine ForI.inv (α := Unit) (fun _ _ => [some (.ref q), none, none, none, none]) (fun _ _ => [(t, intsO cs), (q, .ro (ms.map .int))] ++ R) (fun _ _ => True) () (by walk_at "sub") (by walk_at "cov") trivial ?_ ?_
  · rintro i _ d hd _
    rw [List.getElem?_map] at hd
    obtain ⟨c, _, rfl⟩ := Option.map_eq_some_iff.mp hd
    refine ⟨by walk_at "hasl", ?_⟩
    walk_at "go"
    refine CtOf.mk [] _ .nil ⟨c, rfl, rfl, ?_⟩
    intro p a b
    walk_at "go"
    refine ForI.inv (α := Int × Int × Int) (fun _ _ => [some (.ref q), none, some (.ref p), none, none]) (fun _ x => [(p, srcO x.1 x.2.1 x.2.2), (t, intsO cs), (q, .ro (ms.map .int))] ++ R) (fun _ _ => True) (a, b, 0) (by walk_at "sub") (by walk_at "cov") trivial ?_ ?_
    · rintro i ⟨a, b, n⟩ d hd _
      obtain ⟨j, rfl⟩ := rgD_int hd
      refine ⟨trivial, ?_⟩
      walk_at "go"
      refine CtOf.mk _ _ (by walk_at "pull") ⟨p, a, b, n, rfl, rfl, ?_⟩
      intro a b n
      walk_at "go"
      refine CtOf.mk _ _ (by walk_at "pull") ⟨p, a, b, n, rfl, rfl, ?_⟩
      intro a b n
      walk_at "go"
      exact Nx1.mk (a, b, n) (by walk_at "sub") (by walk_at "cov") trivial
    · rintro ⟨a, b, n⟩ _
      refine ⟨trivial, ?_⟩
      walk_at "go"
      exact Nx1.mk () (by walk_at "sub") (by walk_at "cov") trivial
  · rintro _ _
    refine ⟨by walk_at "hasl", ?_⟩
    walk_at "go"
    rename_i p1 p2
    have e300 : LO.lst (repD [(fun i j : Int => D.int (i ^ j.toNat)) 10 18] (Int.toNat 300)) = intsO (List.replicate 300 1000000000000000000) := by
      show _ = LO.lst (List.map D.int (List.replicate 300 1000000000000000000))
      rw [repD_one, List.map_replicate]
      rfl
    have ev : cof (List.replicate 300 1000000000000000000) = 598999999999999999701 := by decide +kernel
    refine CtOf.mk [(p2, intsO (List.replicate 300 1000000000000000000))] _ (Pull.cons Sel.here e300 Pull.nil) ⟨_, _, rfl, .inl ⟨p2, rfl, rfl⟩, ⟨by simp, by simp, fun x hx => by rw [(List.mem_replicate.mp hx).2]; decide⟩, ?_⟩
    rw [ev]
    walk_at "go"
    · rename_i z
      exact absurd (by decide) z
    rename_i z q1 q2 q3 q4 q5 q6 P
    refine LcI.pure [(q1, [1]), (q2, [5]), (q3, [1, 1]), (q4, [2, 1]), (q5, [1, 2]), (q6, [2, 1, 3])] (fun x : Addr × List Int => .ref x.1) (fun x => .int (cof x.2)) rfl (fun _ => trivial) (by simp) ?_ ?_
    · intro x hx acc Ψ hΨ
      simp only [List.mem_cons, List.not_mem_nil, or_false] at hx
      rcases hx with rfl | rfl | rfl | rfl | rfl | rfl <;>
      · walk_at "go"
        refine call_cof (by walk_at "pull") ?_ ?_ ?_ (hΨ _ ?_)
        · dsimp only
          decide
        · dsimp only
          decide
        · dsimp only
          decide
        walk_at "cov"
    · walk_at "go"
      refine deepE.ints (xs := [cof [1], cof [5], cof [1, 1], cof [2, 1], cof [1, 2], cof [2, 1, 3]]) (ys := [0, 4, 1, 3, 3, 8]) (by walk_at "hasl") (by walk_at "hasl") ?_
      rw [decide_eq_true (by decide)]
      walk_at "go"
      refine Ret.mk _ ?_ h
      walk_at "cov"
end DL

namespace K77
open PySem PySem.Spec PyProof.Rows L2 DL
def top (i : Nat) : Stmt := PySem.Challenge.pw_askedorder_k77_questions_of_falling_stre.main.body.getD i (.Pass ⟨0, 0, 0, 0⟩)
abbrev s_InvalidKeys___init__ : Stmt := (inClass (top 2) 0)
abbrev s_InvalidLengths___init__ : Stmt := (inClass (top 3) 0)
abbrev s_InvalidNumber___init__ : Stmt := (inClass (top 4) 0)
abbrev s_Paused___init__ : Stmt := (inClass (top 7) 0)
abbrev s_Honest___init__ : Stmt := (inClass (top 8) 0)
abbrev s_Honest_less : Stmt := (inClass (top 8) 1)
abbrev s_is_integer : Stmt := (top 9)
abbrev s_is_between : Stmt := (top 10)
abbrev s_require_keys : Stmt := (top 11)
abbrev s_require_bool : Stmt := (top 12)
abbrev s_least_of : Stmt := (top 15)
abbrev s_place_one : Stmt := (top 16)
abbrev s_place_all : Stmt := (top 17)
abbrev s_turn_about : Stmt := (top 19)
abbrev s_turn_equal : Stmt := (top 20)
abbrev s_rising_end : Stmt := (top 21)
abbrev s_falling_end : Stmt := (top 22)
abbrev s_find_run : Stmt := (top 23)
abbrev s_count_of_falling : Stmt := (top 27)
abbrev s_steps_away : Stmt := (top 29)
abbrev s_leap_with : Stmt := (top 30)
abbrev s_place_before : Stmt := (top 31)
abbrev s_place_behind : Stmt := (top 32)
abbrev s_Amid___init__ : Stmt := (inClass (top 35) 0)
abbrev s_Amid_turned : Stmt := (inClass (top 35) 1)
abbrev s_Amid_standing : Stmt := (inClass (top 35) 2)
abbrev s_Amid_take : Stmt := (inClass (top 35) 3)
abbrev s_Amid_is_over : Stmt := (inClass (top 35) 4)
abbrev s_Amid_go : Stmt := (inClass (top 35) 5)
abbrev s_Amid_go_plainly : Stmt := (inClass (top 35) 6)
abbrev s_Amid_go_by_rounds : Stmt := (inClass (top 35) 7)
abbrev s_Amid_leap_in_one : Stmt := (inClass (top 35) 8)
abbrev s_Amid_leap_in_other : Stmt := (inClass (top 35) 9)
abbrev s_Joiner___init__ : Stmt := (inClass (top 36) 0)
abbrev s_Joiner_join : Stmt := (inClass (top 36) 1)
abbrev s_Joiner_join_rest : Stmt := (inClass (top 36) 2)
abbrev s_level_between : Stmt := (top 38)
abbrev s_Sorting___init__ : Stmt := (inClass (top 40) 0)
abbrev s_Sorting_go : Stmt := (inClass (top 40) 1)
abbrev s_Sorting_next_piece : Stmt := (inClass (top 40) 2)
abbrev s_Sorting_make_room : Stmt := (inClass (top 40) 3)
abbrev s_Sorting_join_at : Stmt := (inClass (top 40) 4)
abbrev s_Sorting_order : Stmt := (inClass (top 40) 5)
abbrev s_sorted_by : Stmt := (top 41)
abbrev s_count_of : Stmt := (top 42)
abbrev s__law_source : Stmt := (top 44)
abbrev s__law_draw : Stmt := (top 45)
abbrev s__law_pick : Stmt := (top 46)
abbrev s__law_due : Stmt := (top 47)
abbrev s__law_given : Stmt := (top 48)
abbrev s__law_right : Stmt := (top 49)
abbrev s__law_great_right : Stmt := (top 50)
abbrev s_law : Stmt := (top 51)
end K77

namespace K77
open PySem PySem.Spec PyProof.Rows L2 DL
def fa_0 : List He.Fa := [
  .glo "SortError",
  .glo "InvalidKeys",
  .glo "InvalidLengths",
  .glo "InvalidNumber",
  .glo "Paused",
  .glo "Honest",
  .cls "Honest",
  .mkr "Honest",
  .noat "Honest" "marks",
  .noat "Honest" "log",
  .meth "Honest" "less",
  .glo "Amid",
  .cls "Amid",
  .mkr "Amid",
  .noat "Amid" "joiner",
  .noat "Amid" "is_forward",
  .noat "Amid" "one",
  .noat "Amid" "other",
  .noat "Amid" "gone",
  .noat "Amid" "base",
  .noat "Amid" "aside",
  .meth "Amid" "turned",
  .meth "Amid" "standing",
  .meth "Amid" "take",
  .meth "Amid" "is_over",
  .meth "Amid" "go",
  .meth "Amid" "go_plainly",
  .meth "Amid" "go_by_rounds",
  .meth "Amid" "leap_in_one",
  .meth "Amid" "leap_in_other"]
def fa_1 : List He.Fa := [
  .glo "Joiner",
  .cls "Joiner",
  .mkr "Joiner",
  .noat "Joiner" "span",
  .noat "Joiner" "aside",
  .noat "Joiner" "asker",
  .noat "Joiner" "calm",
  .meth "Joiner" "join",
  .meth "Joiner" "join_rest",
  .glo "Sorting",
  .cls "Sorting",
  .mkr "Sorting",
  .noat "Sorting" "busy",
  .noat "Sorting" "row",
  .noat "Sorting" "is_turned",
  .noat "Sorting" "asker",
  .noat "Sorting" "joiner",
  .noat "Sorting" "stack",
  .noat "Sorting" "steps",
  .meth "Sorting" "go",
  .meth "Sorting" "next_piece",
  .meth "Sorting" "make_room",
  .meth "Sorting" "join_at",
  .meth "Sorting" "order",
  .glo "is_integer",
  .glo "is_between",
  .glo "require_keys",
  .glo "require_bool",
  .glo "least_of",
  .glo "place_one"]
def fa_2 : List He.Fa := [
  .glo "place_all",
  .glo "turn_about",
  .glo "turn_equal",
  .glo "rising_end",
  .glo "falling_end",
  .glo "find_run",
  .glo "count_of_falling",
  .glo "steps_away",
  .glo "leap_with",
  .glo "place_before",
  .glo "place_behind",
  .glo "level_between",
  .glo "sorted_by",
  .glo "count_of",
  .glo "_law_source",
  .glo "_law_draw",
  .glo "_law_pick",
  .glo "_law_due",
  .glo "_law_given",
  .glo "_law_right",
  .glo "_law_great_right",
  .glo "law",
  .int "MAX_KEYS" 2000,
  .int "MAX_PLACED" 64,
  .int "MAX_STRETCHES" 300,
  .int "MAX_STRETCH" 1000000000000000000,
  .int "STREAK" 7,
  .free "ValueError",
  .free "abs",
  .free "bool"]
def fa_3 : List He.Fa := [
  .free "enumerate",
  .free "int",
  .free "isinstance",
  .free "len",
  .free "list",
  .free "max",
  .free "min",
  .free "range",
  .free "sum",
  .free "tuple"]
def fa : List He.Fa := fa_0 ++ fa_1 ++ fa_2 ++ fa_3
def fn_0 : List He.DefD := [
  ⟨("Honest", some "__init__"), "__init__", "Honest.__init__", defArgs s_Honest___init__, defBody s_Honest___init__, defScope s_Honest___init__, [], []⟩,
  ⟨("Honest", some "less"), "less", "Honest.less", defArgs s_Honest_less, defBody s_Honest_less, defScope s_Honest_less, [], []⟩,
  ⟨("is_integer", none), "is_integer", "is_integer", defArgs s_is_integer, defBody s_is_integer, defScope s_is_integer, [], []⟩,
  ⟨("is_between", none), "is_between", "is_between", defArgs s_is_between, defBody s_is_between, defScope s_is_between, [], []⟩,
  ⟨("require_keys", none), "require_keys", "require_keys", defArgs s_require_keys, defBody s_require_keys, defScope s_require_keys, [.int 2000], []⟩,
  ⟨("require_bool", none), "require_bool", "require_bool", defArgs s_require_bool, defBody s_require_bool, defScope s_require_bool, [], []⟩,
  ⟨("least_of", none), "least_of", "least_of", defArgs s_least_of, defBody s_least_of, defScope s_least_of, [], []⟩,
  ⟨("place_one", none), "place_one", "place_one", defArgs s_place_one, defBody s_place_one, defScope s_place_one, [], []⟩,
  ⟨("place_all", none), "place_all", "place_all", defArgs s_place_all, defBody s_place_all, defScope s_place_all, [], []⟩,
  ⟨("turn_about", none), "turn_about", "turn_about", defArgs s_turn_about, defBody s_turn_about, defScope s_turn_about, [], []⟩,
  ⟨("turn_equal", none), "turn_equal", "turn_equal", defArgs s_turn_equal, defBody s_turn_equal, defScope s_turn_equal, [], []⟩,
  ⟨("rising_end", none), "rising_end", "rising_end", defArgs s_rising_end, defBody s_rising_end, defScope s_rising_end, [], []⟩,
  ⟨("falling_end", none), "falling_end", "falling_end", defArgs s_falling_end, defBody s_falling_end, defScope s_falling_end, [], []⟩,
  ⟨("find_run", none), "find_run", "find_run", defArgs s_find_run, defBody s_find_run, defScope s_find_run, [], []⟩,
  ⟨("count_of_falling", none), "count_of_falling", "count_of_falling", defArgs s_count_of_falling, defBody s_count_of_falling, defScope s_count_of_falling, [], []⟩,
  ⟨("steps_away", none), "steps_away", "steps_away", defArgs s_steps_away, defBody s_steps_away, defScope s_steps_away, [], []⟩,
  ⟨("leap_with", none), "leap_with", "leap_with", defArgs s_leap_with, defBody s_leap_with, defScope s_leap_with, [], []⟩,
  ⟨("place_before", none), "place_before", "place_before", defArgs s_place_before, defBody s_place_before, defScope s_place_before, [], []⟩,
  ⟨("place_behind", none), "place_behind", "place_behind", defArgs s_place_behind, defBody s_place_behind, defScope s_place_behind, [], []⟩,
  ⟨("Amid", some "__init__"), "__init__", "Amid.__init__", defArgs s_Amid___init__, defBody s_Amid___init__, defScope s_Amid___init__, [], []⟩,
  ⟨("Amid", some "turned"), "turned", "Amid.turned", defArgs s_Amid_turned, defBody s_Amid_turned, defScope s_Amid_turned, [], []⟩,
  ⟨("Amid", some "standing"), "standing", "Amid.standing", defArgs s_Amid_standing, defBody s_Amid_standing, defScope s_Amid_standing, [], []⟩,
  ⟨("Amid", some "take"), "take", "Amid.take", defArgs s_Amid_take, defBody s_Amid_take, defScope s_Amid_take, [], []⟩,
  ⟨("Amid", some "is_over"), "is_over", "Amid.is_over", defArgs s_Amid_is_over, defBody s_Amid_is_over, defScope s_Amid_is_over, [], []⟩,
  ⟨("Amid", some "go"), "go", "Amid.go", defArgs s_Amid_go, defBody s_Amid_go, defScope s_Amid_go, [], []⟩,
  ⟨("Amid", some "go_plainly"), "go_plainly", "Amid.go_plainly", defArgs s_Amid_go_plainly, defBody s_Amid_go_plainly, defScope s_Amid_go_plainly, [], []⟩,
  ⟨("Amid", some "go_by_rounds"), "go_by_rounds", "Amid.go_by_rounds", defArgs s_Amid_go_by_rounds, defBody s_Amid_go_by_rounds, defScope s_Amid_go_by_rounds, [], []⟩,
  ⟨("Amid", some "leap_in_one"), "leap_in_one", "Amid.leap_in_one", defArgs s_Amid_leap_in_one, defBody s_Amid_leap_in_one, defScope s_Amid_leap_in_one, [], []⟩,
  ⟨("Amid", some "leap_in_other"), "leap_in_other", "Amid.leap_in_other", defArgs s_Amid_leap_in_other, defBody s_Amid_leap_in_other, defScope s_Amid_leap_in_other, [], []⟩,
  ⟨("Joiner", some "__init__"), "__init__", "Joiner.__init__", defArgs s_Joiner___init__, defBody s_Joiner___init__, defScope s_Joiner___init__, [.int 7], []⟩]
def fn_1 : List He.DefD := [
  ⟨("Joiner", some "join"), "join", "Joiner.join", defArgs s_Joiner_join, defBody s_Joiner_join, defScope s_Joiner_join, [], []⟩,
  ⟨("Joiner", some "join_rest"), "join_rest", "Joiner.join_rest", defArgs s_Joiner_join_rest, defBody s_Joiner_join_rest, defScope s_Joiner_join_rest, [], []⟩,
  ⟨("level_between", none), "level_between", "level_between", defArgs s_level_between, defBody s_level_between, defScope s_level_between, [], []⟩,
  ⟨("Sorting", some "__init__"), "__init__", "Sorting.__init__", defArgs s_Sorting___init__, defBody s_Sorting___init__, defScope s_Sorting___init__, [], []⟩,
  ⟨("Sorting", some "go"), "go", "Sorting.go", defArgs s_Sorting_go, defBody s_Sorting_go, defScope s_Sorting_go, [], []⟩,
  ⟨("Sorting", some "next_piece"), "next_piece", "Sorting.next_piece", defArgs s_Sorting_next_piece, defBody s_Sorting_next_piece, defScope s_Sorting_next_piece, [], []⟩,
  ⟨("Sorting", some "make_room"), "make_room", "Sorting.make_room", defArgs s_Sorting_make_room, defBody s_Sorting_make_room, defScope s_Sorting_make_room, [], []⟩,
  ⟨("Sorting", some "join_at"), "join_at", "Sorting.join_at", defArgs s_Sorting_join_at, defBody s_Sorting_join_at, defScope s_Sorting_join_at, [], []⟩,
  ⟨("Sorting", some "order"), "order", "Sorting.order", defArgs s_Sorting_order, defBody s_Sorting_order, defScope s_Sorting_order, [], []⟩,
  ⟨("sorted_by", none), "sorted_by", "sorted_by", defArgs s_sorted_by, defBody s_sorted_by, defScope s_sorted_by, [], []⟩,
  ⟨("count_of", none), "count_of", "count_of", defArgs s_count_of, defBody s_count_of, defScope s_count_of, [], [("reverse", .bl false)]⟩,
  ⟨("_law_source", none), "_law_source", "_law_source", defArgs s__law_source, defBody s__law_source, defScope s__law_source, [], []⟩,
  ⟨("_law_draw", none), "_law_draw", "_law_draw", defArgs s__law_draw, defBody s__law_draw, defScope s__law_draw, [], []⟩,
  ⟨("_law_pick", none), "_law_pick", "_law_pick", defArgs s__law_pick, defBody s__law_pick, defScope s__law_pick, [], []⟩,
  ⟨("_law_due", none), "_law_due", "_law_due", defArgs s__law_due, defBody s__law_due, defScope s__law_due, [], []⟩,
  ⟨("_law_given", none), "_law_given", "_law_given", defArgs s__law_given, defBody s__law_given, defScope s__law_given, [], []⟩,
  ⟨("_law_right", none), "_law_right", "_law_right", defArgs s__law_right, defBody s__law_right, defScope s__law_right, [], []⟩,
  ⟨("_law_great_right", none), "_law_great_right", "_law_great_right", defArgs s__law_great_right, defBody s__law_great_right, defScope s__law_great_right, [], []⟩,
  ⟨("law", none), "law", "law", defArgs s_law, defBody s_law, defScope s_law, [], []⟩]
def fn : List He.DefD := fn_0 ++ fn_1
def ex (K : PySem.W.Frag) : Bool := true
def loose : List Str := (["SortError", "InvalidKeys", "InvalidLengths", "InvalidNumber", "Paused", "Honest", "Amid", "Joiner", "Sorting", "is_integer", "is_between", "require_keys", "require_bool", "least_of", "place_one", "place_all", "turn_about", "turn_equal", "rising_end", "falling_end", "find_run", "count_of_falling", "steps_away", "leap_with", "place_before", "place_behind", "level_between", "sorted_by", "count_of", "_law_source"] : List Str) ++ (["_law_draw", "_law_pick", "_law_due", "_law_given", "_law_right", "_law_great_right", "MAX_KEYS", "MAX_PLACED", "MAX_STRETCHES", "MAX_STRETCH", "STREAK"] : List Str)
abbrev Rw : PySem.W.OpenRow := PySem.W.OpenLaw.row PySem.Challenge.rw_askedorder_k77_questions_of_falling_stre
abbrev hk : PySem.W.Hook := He.hookX 6 fa fn [] [] ex
def ob (s : PySem.W.SharedT) : He.AlX := He.obsX 6 fa fn [] [] ex (HandSHeadRun.getT s)
theorem ob_eq (s : PySem.W.SharedT) : ob s = hk.obs s.abs := He.obsX_eq (HandSHeadRun.getT_eq s)
theorem run (w : World) : HandSHeadRun.RunEq Rw (PySem.W.view Rw.prog [51]) hk ob 6000 loose w := by
  intro os
  kernel_rfl
end K77

namespace K77
open PySem PySem.Spec PyProof.Rows L2 DL
section
variable {P : Program} {w : World} {K : PySem.W.Frag} {mg : Str → Option Value} {base : Heap} {cl : Cl}
structure Bl (K : PySem.W.Frag) (mg : Str → Option Value) (cl : Cl) : Prop where
  c_Honest : Cls K cl.Honest
  c_Joiner : Cls K cl.Joiner
  c_Sorting : Cls K cl.Sorting
  i_MAX_PLACED : ∃ t, mg "MAX_PLACED" = some (.int 64 t)
  i_MAX_STRETCH : ∃ t, mg "MAX_STRETCH" = some (.int 1000000000000000000 t)
  i_MAX_STRETCHES : ∃ t, mg "MAX_STRETCHES" = some (.int 300 t)
  n_abs : mg "abs" = none
  n_bool : mg "bool" = none
  n_enumerate : mg "enumerate" = none
  n_int : mg "int" = none
  n_isinstance : mg "isinstance" = none
  n_len : mg "len" = none
  n_list : mg "list" = none
  n_min : mg "min" = none
  n_range : mg "range" = none
  n_sum : mg "sum" = none
  n_tuple : mg "tuple" = none
  na_Honest_log : NoAttr K cl.Honest "log"
  na_Honest_marks : NoAttr K cl.Honest "marks"
  na_Joiner_aside : NoAttr K cl.Joiner "aside"
  na_Joiner_asker : NoAttr K cl.Joiner "asker"
  na_Joiner_calm : NoAttr K cl.Joiner "calm"
  na_Joiner_span : NoAttr K cl.Joiner "span"
  na_Sorting_asker : NoAttr K cl.Sorting "asker"
  na_Sorting_busy : NoAttr K cl.Sorting "busy"
  na_Sorting_is_turned : NoAttr K cl.Sorting "is_turned"
  na_Sorting_joiner : NoAttr K cl.Sorting "joiner"
  na_Sorting_row : NoAttr K cl.Sorting "row"
  na_Sorting_stack : NoAttr K cl.Sorting "stack"
  na_Sorting_steps : NoAttr K cl.Sorting "steps"
def ps_is_integer : List Str := ["value"]
def N_is_integer : List Str := ["value"]
theorem sc_is_integer : FnScope N_is_integer ps_is_integer (defScope s_is_integer) := ⟨rfl, rfl, rfl, by decide +kernel, rfl, by decide +kernel, by decide +kernel⟩
theorem ok_is_integer (B : Bl K mg cl)  {f : Addr} {fd : FuncData} (F : FunD K "is_integer" "is_integer" (defArgs s_is_integer) (defBody s_is_integer) (defScope s_is_integer) [] [] f fd) : FnOk P w K mg base CX0 1 f fd ps_is_integer (liftC K (C_is_integer cl)) :=
  fnOkS F sc_is_integer (fun ds F R Φ h => by obtain ⟨_, e, _⟩ := h; subst e; rfl) (fun cdv A outer s H E hr => pss_one' (ps_ret' (pe_and' (pe_isi' (by rfl) B.n_isinstance (by rfl) B.n_int (by decide +kernel) (pv' 0)) (pe_one' (pe_not' (pe_isi' (by rfl) B.n_isinstance (by rfl) B.n_bool (by decide +kernel) (pv' 0))))))) (rd_is_integer cl)
def ps_is_between : List Str := ["value", "low", "high"]
def N_is_between : List Str := ["value", "low", "high"]
theorem sc_is_between : FnScope N_is_between ps_is_between (defScope s_is_between) := ⟨rfl, rfl, rfl, by decide +kernel, rfl, by decide +kernel, by decide +kernel⟩
theorem ok_is_between (B : Bl K mg cl) (G_is_integer : Fnd P w K mg base "is_integer" 1 [] (C_is_integer cl) 1) {f : Addr} {fd : FuncData} (F : FunD K "is_between" "is_between" (defArgs s_is_between) (defBody s_is_between) (defScope s_is_between) [] [] f fd) : FnOk P w K mg base CX0 2 f fd ps_is_between (liftC K (C_is_between cl)) :=
  fnOkS F sc_is_between (fun ds F R Φ h => by obtain ⟨_, _, _, e, _⟩ := h; subst e; rfl) (fun cdv A outer s H E hr => pss_one' (ps_ret' (pe_and' (pe_call' G_is_integer (hr.mono (by decide)) (by rfl) (pa_cons' (pv' 0) (pa_nil'))) (pe_one' (pe_chain' od_le od_le op_le op_le (pv' 1) (pv' 0) (pv' 2)))))) (rd_is_between cl)
def ps_count_of_falling : List Str := ["lengths"]
def N_count_of_falling : List Str := ["lengths", "later", "index", "length"]
theorem sc_count_of_falling : FnScope N_count_of_falling ps_count_of_falling (defScope s_count_of_falling) := ⟨rfl, rfl, rfl, by decide +kernel, rfl, by decide +kernel, by decide +kernel⟩
theorem ok_count_of_falling (B : Bl K mg cl) (G_is_between : Fnd P w K mg base "is_between" 3 [] (C_is_between cl) 2) {f : Addr} {fd : FuncData} (F : FunD K "count_of_falling" "count_of_falling" (defArgs s_count_of_falling) (defBody s_count_of_falling) (defScope s_count_of_falling) [] [] f fd) : FnOk P w K mg base CX0 3 f fd ps_count_of_falling (liftC K (C_count_of_falling cl)) :=
  fnOkS F sc_count_of_falling (fun ds F R Φ h => by obtain ⟨_, _, e, _⟩ := h; subst e; rfl) (fun cdv A outer s H E hr => pss_cons' (ps_if' (PW'.pt (pw_or' (pt_not' (pt_tru' (pe_isi2' (by rfl) B.n_isinstance (by rfl) B.n_list (by decide +kernel) (by rfl) B.n_tuple (by decide +kernel) (pv' 0)))) (pw_or1' (pt_not' (pt_chain' od_le od_le op_le op_le (pe_int') (pe_callB' cd_len call_len (by rfl) B.n_len PySem.boot_len (pa_cons' (pv' 0) (pa_nil'))) (pe_gint (by rfl) B.i_MAX_STRETCHES)))))) (pss_one' (ps_never')) (pss_nil'))
  (pss_cons' (ps_for' PassesOwn.never rfl (pi_enumA' (by rfl) B.n_enumerate (pa_cons' (pv' 0) (pa_nil'))) (pg_tup' rfl (pgs_cons' (pg_name' (i := 2) sc_count_of_falling.nd) (pgs_cons' (pg_name' (i := 3) sc_count_of_falling.nd) (pgs_nil')))) (pss_one' (ps_if' (pt_not' (pt_tru' (pe_call' G_is_between (hr.mono (by decide)) (by rfl) (pa_cons' (pv' 3) (pa_cons' (pe_int') (pa_cons' (pe_gint (by rfl) B.i_MAX_STRETCH) (pa_nil'))))))) (pss_one' (ps_never')) (pss_nil'))))
  (pss_cons' (ps_if' (pt_cmp' od_eq (op_eqA hr.units) (pe_callB' cd_len call_len (by rfl) B.n_len PySem.boot_len (pa_cons' (pv' 0) (pa_nil'))) (pe_int') (nomark _)) (pss_one' (ps_ret' (pe_op' od_sub op_sub (pe_ix' (pv' 0) (pe_int')) (pe_int')))) (pss_nil'))
  (pss_cons' (ps_set' (i := 1) sc_count_of_falling.nd (pe_op' od_sub op_sub (pe_op' od_add op_addA (pe_callB' cd_sum (cr_sum rfl) (by rfl) B.n_sum boot_sum (pa_cons' (pe_lc' (own := [("length", 3)]) (g := gName 3) (g' := gName' 3) rfl sc_count_of_falling.nd (pi_seq' (pe_slice' (pv' 0) (po_some' (pe_int')) (po_none'))) (blkOk_by (own := [("length", 3)]) (N := N_count_of_falling) (sc := defScope s_count_of_falling) (by decide +kernel)) (own_name (by decide)) (fun _ _ _ _ _ => pg_name (i := 3) sc_count_of_falling.nd rfl (Or.inl rfl)) (fun _ _ _ _ _ => pts_nil') (fun _ _ _ _ _ => pe_op' od_mul op_mulA (pe_int') (pe_op' od_sub op_sub (pv' 3) (pe_int')))) (pa_nil'))) (pe_callB' cd_len call_len (by rfl) B.n_len PySem.boot_len (pa_cons' (pv' 0) (pa_nil')))) (pe_int')))
  (pss_one' (ps_ret' (pe_op' od_add op_addA (pe_op' od_add op_addA (pe_ix' (pv' 0) (pe_int')) (pe_callTy' cd_int call_int1 (by rfl) B.n_int (by decide +kernel) (pa_cons' (pe_cmp' od_gt op_gt (pe_ix' (pv' 0) (pe_int')) (pe_int') (nomark _)) (pa_nil')))) (pv' 1)))))))) (rd_count_of_falling cl)
def ps_require_bool : List Str := ["name", "value"]
def N_require_bool : List Str := ["name", "value"]
theorem sc_require_bool : FnScope N_require_bool ps_require_bool (defScope s_require_bool) := ⟨rfl, rfl, rfl, by decide +kernel, rfl, by decide +kernel, by decide +kernel⟩
theorem ok_require_bool (B : Bl K mg cl)  {f : Addr} {fd : FuncData} (F : FunD K "require_bool" "require_bool" (defArgs s_require_bool) (defBody s_require_bool) (defScope s_require_bool) [] [] f fd) : FnOk P w K mg base CX0 1 f fd ps_require_bool (liftC K (C_require_bool cl)) :=
  fnOkS F sc_require_bool (fun ds F R Φ h => by obtain ⟨_, _, e, _⟩ := h; subst e; rfl) (fun cdv A outer s H E hr => pss_one' (ps_if' (pt_not' (pt_tru' (pe_isi' (by rfl) B.n_isinstance (by rfl) B.n_bool (by decide +kernel) (pv' 1)))) (pss_one' (ps_never')) (pss_nil'))) (rd_require_bool cl)
def ps_require_keys : List Str := ["keys", "most"]
def N_require_keys : List Str := ["keys", "most", "index", "key"]
theorem sc_require_keys : FnScope N_require_keys ps_require_keys (defScope s_require_keys) := ⟨rfl, rfl, rfl, by decide +kernel, rfl, by decide +kernel, by decide +kernel⟩
theorem ok_require_keys (B : Bl K mg cl) (G_is_integer : Fnd P w K mg base "is_integer" 1 [] (C_is_integer cl) 1) {f : Addr} {fd : FuncData} (F : FunD K "require_keys" "require_keys" (defArgs s_require_keys) (defBody s_require_keys) (defScope s_require_keys) [.int 2000] [] f fd) : FnOk P w K mg base CX0 2 f fd ps_require_keys (liftC K (C_require_keys cl)) :=
  fnOkS F sc_require_keys (fun ds F R Φ h => by obtain ⟨_, _, _, e, _⟩ := h; subst e; rfl) (fun cdv A outer s H E hr => pss_cons' (ps_if' (PW'.pt (pw_or' (pt_not' (pt_tru' (pe_isi2' (by rfl) B.n_isinstance (by rfl) B.n_list (by decide +kernel) (by rfl) B.n_tuple (by decide +kernel) (pv' 0)))) (pw_or1' (pt_cmp' od_gt op_gt (pe_callB' cd_len call_len (by rfl) B.n_len PySem.boot_len (pa_cons' (pv' 0) (pa_nil'))) (pv' 1) (nomark _))))) (pss_one' (ps_never')) (pss_nil'))
  (pss_one' (ps_for' PassesOwn.never rfl (pi_enumA' (by rfl) B.n_enumerate (pa_cons' (pv' 0) (pa_nil'))) (pg_tup' rfl (pgs_cons' (pg_name' (i := 2) sc_require_keys.nd) (pgs_cons' (pg_name' (i := 3) sc_require_keys.nd) (pgs_nil')))) (pss_one' (ps_if' (pt_not' (pt_tru' (pe_call' G_is_integer (hr.mono (by decide)) (by rfl) (pa_cons' (pv' 3) (pa_nil'))))) (pss_one' (ps_never')) (pss_nil')))))) (rd_require_keys cl)
def ps_Sorting_join_at : List Str := ["self", "place"]
theorem ok_Sorting_join_at {f : Addr} {fd : FuncData} (F : FunD K "join_at" "Sorting.join_at" (defArgs s_Sorting_join_at) (defBody s_Sorting_join_at) (defScope s_Sorting_join_at) [] [] f fd) : FnOk P w K mg base CX0 1 f fd ps_Sorting_join_at (liftC K (C_Sorting_join_at cl)) := fnOkF F
def ps_place_all : List Str := ["row", "start", "end", "ready", "asker"]
theorem ok_place_all {f : Addr} {fd : FuncData} (F : FunD K "place_all" "place_all" (defArgs s_place_all) (defBody s_place_all) (defScope s_place_all) [] [] f fd) : FnOk P w K mg base CX0 1 f fd ps_place_all (liftC K (C_place_all cl)) := fnOkF F
def ps_least_of : List Str := ["many"]
def N_least_of : List Str := ["many", "is_odd"]
theorem sc_least_of : FnScope N_least_of ps_least_of (defScope s_least_of) := ⟨rfl, rfl, rfl, by decide +kernel, rfl, by decide +kernel, by decide +kernel⟩
theorem ok_least_of (B : Bl K mg cl)  {f : Addr} {fd : FuncData} (F : FunD K "least_of" "least_of" (defArgs s_least_of) (defBody s_least_of) (defScope s_least_of) [] [] f fd) : FnOk P w K mg base CX0 1 f fd ps_least_of (liftC K (C_least_of cl)) :=
  fnOkS F sc_least_of (fun ds F R Φ h => by obtain ⟨_, e, _⟩ := h; subst e; rfl) (fun cdv A outer s H E hr => pss_cons' (ps_set' (i := 1) sc_least_of.nd (pe_int'))
  (pss_cons' (ps_while' PassesOwn.never (pt_cmp' od_ge op_ge (pv' 0) (pe_gint (by rfl) B.i_MAX_PLACED) (nomark _)) (pss_cons' (ps_set' (i := 1) sc_least_of.nd (pe_or' (pv' 1) (pe_one' (pe_op' od_band op_and (pv' 0) (pe_int')))))
  (pss_one' (ps_set' (i := 0) sc_least_of.nd (pe_op' od_shr op_shr (pv' 0) (pe_int'))))))
  (pss_one' (ps_ret' (pe_op' od_add op_addA (pv' 0) (pv' 1)))))) (rd_least_of cl)
def ps_Honest_less : List Str := ["self", "one", "other"]
def N_Honest_less : List Str := ["self", "one", "other", "is_less"]
theorem sc_Honest_less : FnScope N_Honest_less ps_Honest_less (defScope s_Honest_less) := ⟨rfl, rfl, rfl, by decide +kernel, rfl, by decide +kernel, by decide +kernel⟩
theorem ok_Honest_less (B : Bl K mg cl)  {f : Addr} {fd : FuncData} (F : FunD K "less" "Honest.less" (defArgs s_Honest_less) (defBody s_Honest_less) (defScope s_Honest_less) [] [] f fd) : FnOk P w K mg base CX0 1 f fd ps_Honest_less (liftC K (C_Honest_less cl)) :=
  fnOkS F sc_Honest_less (fun ds F R Φ h => by obtain ⟨_, _, _, _, _, _, _, e, _⟩ := h; subst e; rfl) (fun cdv A outer s H E hr => pss_cons' (ps_set' (i := 3) sc_Honest_less.nd (pe_cmp' od_lt op_lt (pe_ix' (pe_fld' (f := 0) B.c_Honest B.na_Honest_marks (pv' 0)) (pv' 1)) (pe_ix' (pe_fld' (f := 0) B.c_Honest B.na_Honest_marks (pv' 0)) (pv' 2)) (nomark _)))
  (pss_cons' (ps_expr' (pe_lm' md_append PySem.F.slot_list_append PySem.F.type_list_append mt_append (pe_fld' (f := 1) B.c_Honest B.na_Honest_log (pv' 0)) (pa_cons' (pe_tup' (pa_cons' (pe_tup' (pa_cons' (pv' 1) (pa_cons' (pv' 2) (pa_nil')))) (pa_cons' (pv' 3) (pa_nil')))) (pa_nil'))))
  (pss_one' (ps_ret' (pv' 3))))) (rd_less cl)
def ps_rising_end : List Str := ["row", "place", "end", "asker"]
def N_rising_end : List Str := ["row", "place", "end", "asker"]
theorem sc_rising_end : FnScope N_rising_end ps_rising_end (defScope s_rising_end) := ⟨rfl, rfl, rfl, by decide +kernel, rfl, by decide +kernel, by decide +kernel⟩
theorem ok_rising_end (B : Bl K mg cl) (G_Honest_less : Mtd P w K mg base cl.Honest "less" [] (C_Honest_less cl) 1) {f : Addr} {fd : FuncData} (F : FunD K "rising_end" "rising_end" (defArgs s_rising_end) (defBody s_rising_end) (defScope s_rising_end) [] [] f fd) : FnOk P w K mg base CX0 2 f fd ps_rising_end (liftC K (C_rising_end cl)) :=
  fnOkS F sc_rising_end (fun ds F R Φ h => by obtain ⟨_, _, _, _, _, _, _, _, _, e, _⟩ := h; subst e; rfl) (fun cdv A outer s H E hr => pss_cons' (ps_while' PassesOwn.never (PW'.pt (pw_and' (pt_cmp' od_lt op_lt (pv' 1) (pv' 2) (nomark _)) (pw_and1' (pt_not' (pt_tru' (pe_meth' (pl := _) G_Honest_less (hr.mono (by decide)) (pv' 3) (pa_cons' (pe_ix' (pv' 0) (pv' 1)) (pa_cons' (pe_ix' (pv' 0) (pe_op' od_sub op_sub (pv' 1) (pe_int'))) (pa_nil'))))))))) (pss_one' (ps_aug' (i := 1) sc_rising_end.nd od_ipadd ip_add (pe_int'))))
  (pss_one' (ps_ret' (pv' 1)))) (rd_rising_end cl)
def ps_turn_about : List Str := ["row", "start", "end"]
def N_turn_about : List Str := ["row", "start", "end"]
theorem sc_turn_about : FnScope N_turn_about ps_turn_about (defScope s_turn_about) := ⟨rfl, rfl, rfl, by decide +kernel, rfl, by decide +kernel, by decide +kernel⟩
theorem ok_turn_about (B : Bl K mg cl)  {f : Addr} {fd : FuncData} (F : FunD K "turn_about" "turn_about" (defArgs s_turn_about) (defBody s_turn_about) (defScope s_turn_about) [] [] f fd) : FnOk P w K mg base CX0 1 f fd ps_turn_about (liftC K (C_turn_about cl)) :=
  fnOkS F sc_turn_about (fun ds F R Φ h => by obtain ⟨_, _, _, _, e, _⟩ := h; subst e; rfl) (fun cdv A outer s H E hr => pss_one' (ps_asg' (pe_revL' (pe_slice' (pv' 0) (po_some' (pv' 1)) (po_some' (pv' 2)))) (pg_slice' (pv' 0) (pv' 1) (pv' 2)))) (rd_turn_about cl)
def ps_turn_equal : List Str := ["row", "place", "equal"]
def N_turn_equal : List Str := ["row", "place", "equal"]
theorem sc_turn_equal : FnScope N_turn_equal ps_turn_equal (defScope s_turn_equal) := ⟨rfl, rfl, rfl, by decide +kernel, rfl, by decide +kernel, by decide +kernel⟩
theorem ok_turn_equal (B : Bl K mg cl) (G_turn_about : Fnd P w K mg base "turn_about" 3 [] (C_turn_about cl) 1) {f : Addr} {fd : FuncData} (F : FunD K "turn_equal" "turn_equal" (defArgs s_turn_equal) (defBody s_turn_equal) (defScope s_turn_equal) [] [] f fd) : FnOk P w K mg base CX0 2 f fd ps_turn_equal (liftC K (C_turn_equal cl)) :=
  fnOkS F sc_turn_equal (fun ds F R Φ h => by obtain ⟨_, _, _, _, e, _⟩ := h; subst e; rfl) (fun cdv A outer s H E hr => pss_one' (ps_if' (pt_cmp' od_gt op_gt (pv' 2) (pe_int') (nomark _)) (pss_one' (ps_expr' (pe_call' G_turn_about (hr.mono (by decide)) (by rfl) (pa_cons' (pv' 0) (pa_cons' (pe_op' od_sub op_sub (pe_op' od_sub op_sub (pv' 1) (pv' 2)) (pe_int')) (pa_cons' (pv' 1) (pa_nil'))))))) (pss_nil'))) (rd_turn_equal cl)
def ps_falling_end : List Str := ["row", "place", "end", "asker"]
def N_falling_end : List Str := ["row", "place", "end", "asker", "equal"]
theorem sc_falling_end : FnScope N_falling_end ps_falling_end (defScope s_falling_end) := ⟨rfl, rfl, rfl, by decide +kernel, rfl, by decide +kernel, by decide +kernel⟩
theorem ok_falling_end (B : Bl K mg cl) (G_turn_equal : Fnd P w K mg base "turn_equal" 3 [] (C_turn_equal cl) 2) (G_Honest_less : Mtd P w K mg base cl.Honest "less" [] (C_Honest_less cl) 1) {f : Addr} {fd : FuncData} (F : FunD K "falling_end" "falling_end" (defArgs s_falling_end) (defBody s_falling_end) (defScope s_falling_end) [] [] f fd) : FnOk P w K mg base CX0 3 f fd ps_falling_end (liftC K (C_falling_end cl)) :=
  fnOkS F sc_falling_end (fun ds F R Φ h => by obtain ⟨_, _, _, _, _, _, _, _, _, e, _⟩ := h; subst e; rfl) (fun cdv A outer s H E hr => pss_cons' (ps_set' (i := 4) sc_falling_end.nd (pe_int'))
  (pss_cons' (ps_while' PassesOwn.never (pt_cmp' od_lt op_lt (pv' 1) (pv' 2) (nomark _)) (pss_cons' (ps_if' (pt_tru' (pe_meth' (pl := _) G_Honest_less (hr.mono (by decide)) (pv' 3) (pa_cons' (pe_ix' (pv' 0) (pv' 1)) (pa_cons' (pe_ix' (pv' 0) (pe_op' od_sub op_sub (pv' 1) (pe_int'))) (pa_nil'))))) (pss_cons' (ps_expr' (pe_call' G_turn_equal (hr.mono (by decide)) (by rfl) (pa_cons' (pv' 0) (pa_cons' (pv' 1) (pa_cons' (pv' 4) (pa_nil'))))))
  (pss_one' (ps_set' (i := 4) sc_falling_end.nd (pe_int')))) (pss_one' (ps_if' (pt_tru' (pe_meth' (pl := _) G_Honest_less (hr.mono (by decide)) (pv' 3) (pa_cons' (pe_ix' (pv' 0) (pe_op' od_sub op_sub (pv' 1) (pe_int'))) (pa_cons' (pe_ix' (pv' 0) (pv' 1)) (pa_nil'))))) (pss_one' (ps_break')) (pss_one' (ps_aug' (i := 4) sc_falling_end.nd od_ipadd ip_add (pe_int'))))))
  (pss_one' (ps_aug' (i := 1) sc_falling_end.nd od_ipadd ip_add (pe_int')))))
  (pss_cons' (ps_expr' (pe_call' G_turn_equal (hr.mono (by decide)) (by rfl) (pa_cons' (pv' 0) (pa_cons' (pv' 1) (pa_cons' (pv' 4) (pa_nil'))))))
  (pss_one' (ps_ret' (pv' 1)))))) (rd_falling_end cl)
def ps_find_run : List Str := ["row", "start", "end", "asker"]
def N_find_run : List Str := ["row", "start", "end", "asker", "place"]
theorem sc_find_run : FnScope N_find_run ps_find_run (defScope s_find_run) := ⟨rfl, rfl, rfl, by decide +kernel, rfl, by decide +kernel, by decide +kernel⟩
theorem ok_find_run (B : Bl K mg cl) (G_rising_end : Fnd P w K mg base "rising_end" 4 [] (C_rising_end cl) 2) (G_turn_about : Fnd P w K mg base "turn_about" 3 [] (C_turn_about cl) 1) (G_falling_end : Fnd P w K mg base "falling_end" 4 [] (C_falling_end cl) 3) (G_Honest_less : Mtd P w K mg base cl.Honest "less" [] (C_Honest_less cl) 1) {f : Addr} {fd : FuncData} (F : FunD K "find_run" "find_run" (defArgs s_find_run) (defBody s_find_run) (defScope s_find_run) [] [] f fd) : FnOk P w K mg base CX0 4 f fd ps_find_run (liftC K (C_find_run cl)) :=
  fnOkS F sc_find_run (fun ds F R Φ h => by obtain ⟨_, _, _, _, _, _, _, _, _, e, _⟩ := h; subst e; rfl) (fun cdv A outer s H E hr => pss_cons' (ps_set' (i := 4) sc_find_run.nd (pe_call' G_rising_end (hr.mono (by decide)) (by rfl) (pa_cons' (pv' 0) (pa_cons' (pe_op' od_add op_addA (pv' 1) (pe_int')) (pa_cons' (pv' 2) (pa_cons' (pv' 3) (pa_nil')))))))
  (pss_cons' (ps_if' (pt_cmp' od_eq (op_eqA hr.units) (pv' 4) (pv' 2) (nomark _)) (pss_one' (ps_ret' (pe_op' od_sub op_sub (pv' 4) (pv' 1)))) (pss_nil'))
  (pss_cons' (ps_if' (pt_cmp' od_gt op_gt (pe_op' od_sub op_sub (pv' 4) (pv' 1)) (pe_int') (nomark _)) (pss_cons' (ps_if' (pt_tru' (pe_meth' (pl := _) G_Honest_less (hr.mono (by decide)) (pv' 3) (pa_cons' (pe_ix' (pv' 0) (pv' 1)) (pa_cons' (pe_ix' (pv' 0) (pe_op' od_sub op_sub (pv' 4) (pe_int'))) (pa_nil'))))) (pss_one' (ps_ret' (pe_op' od_sub op_sub (pv' 4) (pv' 1)))) (pss_nil'))
  (pss_one' (ps_expr' (pe_call' G_turn_about (hr.mono (by decide)) (by rfl) (pa_cons' (pv' 0) (pa_cons' (pv' 1) (pa_cons' (pv' 4) (pa_nil')))))))) (pss_nil'))
  (pss_cons' (ps_set' (i := 4) sc_find_run.nd (pe_call' G_falling_end (hr.mono (by decide)) (by rfl) (pa_cons' (pv' 0) (pa_cons' (pe_op' od_add op_addA (pv' 4) (pe_int')) (pa_cons' (pv' 2) (pa_cons' (pv' 3) (pa_nil')))))))
  (pss_cons' (ps_expr' (pe_call' G_turn_about (hr.mono (by decide)) (by rfl) (pa_cons' (pv' 0) (pa_cons' (pv' 1) (pa_cons' (pv' 4) (pa_nil'))))))
  (pss_one' (ps_ret' (pe_op' od_sub op_sub (pe_call' G_rising_end (hr.mono (by decide)) (by rfl) (pa_cons' (pv' 0) (pa_cons' (pv' 4) (pa_cons' (pv' 2) (pa_cons' (pv' 3) (pa_nil')))))) (pv' 1))))))))) (rd_find_run cl)
def ps_Sorting_make_room : List Str := ["self", "length"]
theorem ok_Sorting_make_room {f : Addr} {fd : FuncData} (F : FunD K "make_room" "Sorting.make_room" (defArgs s_Sorting_make_room) (defBody s_Sorting_make_room) (defScope s_Sorting_make_room) [] [] f fd) : FnOk P w K mg base CX0 1 f fd ps_Sorting_make_room (liftC K (C_Sorting_make_room cl)) := fnOkF F
def ps_Sorting_next_piece : List Str := ["self", "start"]
def N_Sorting_next_piece : List Str := ["self", "start", "many", "found", "length", "least"]
theorem sc_Sorting_next_piece : FnScope N_Sorting_next_piece ps_Sorting_next_piece (defScope s_Sorting_next_piece) := ⟨rfl, rfl, rfl, by decide +kernel, rfl, by decide +kernel, by decide +kernel⟩
theorem ok_Sorting_next_piece (B : Bl K mg cl) (G_place_all : Fnd P w K mg base "place_all" 5 [] (C_place_all cl) 1) (G_least_of : Fnd P w K mg base "least_of" 1 [] (C_least_of cl) 1) (G_find_run : Fnd P w K mg base "find_run" 4 [] (C_find_run cl) 4) (G_Sorting_make_room : Mtd P w K mg base cl.Sorting "make_room" [] (C_Sorting_make_room cl) 1) {f : Addr} {fd : FuncData} (F : FunD K "next_piece" "Sorting.next_piece" (defArgs s_Sorting_next_piece) (defBody s_Sorting_next_piece) (defScope s_Sorting_next_piece) [] [] f fd) : FnOk P w K mg base CX0 5 f fd ps_Sorting_next_piece (liftC K (C_Sorting_next_piece cl)) :=
  fnOkS F sc_Sorting_next_piece (fun ds F R Φ h => by obtain ⟨_, _, _, _, _, _, _, _, _, _, _, _, _, _, e, _⟩ := h; subst e; rfl) (fun cdv A outer s H E hr => pss_cons' (ps_set' (i := 2) sc_Sorting_next_piece.nd (pe_callB' cd_len call_len (by rfl) B.n_len PySem.boot_len (pa_cons' (pe_fld' (f := 4) B.c_Sorting B.na_Sorting_row (pv' 0)) (pa_nil'))))
  (pss_cons' (ps_fld' (f := 10) B.c_Sorting B.na_Sorting_busy (pv' 0) (pe_tup' (pa_cons' (pe_str') (pa_cons' (pv' 1) (pa_nil')))))
  (pss_cons' (ps_asg2' (pe_call' G_find_run (hr.mono (by decide)) (by rfl) (pa_cons' (pe_fld' (f := 4) B.c_Sorting B.na_Sorting_row (pv' 0)) (pa_cons' (pv' 1) (pa_cons' (pv' 2) (pa_cons' (pe_fld' (f := 6) B.c_Sorting B.na_Sorting_asker (pv' 0)) (pa_nil')))))) (pg_name' (i := 3) sc_Sorting_next_piece.nd) (pg_name' (i := 4) sc_Sorting_next_piece.nd))
  (pss_cons' (ps_set' (i := 5) sc_Sorting_next_piece.nd (pe_call' G_least_of (hr.mono (by decide)) (by rfl) (pa_cons' (pv' 2) (pa_nil'))))
  (pss_cons' (ps_if' (pt_cmp' od_lt op_lt (pv' 4) (pv' 5) (nomark _)) (pss_cons' (ps_set' (i := 4) sc_Sorting_next_piece.nd (pe_callB' cd_min2 (call_min2 rfl) (by rfl) B.n_min boot_min (pa_cons' (pv' 5) (pa_cons' (pe_op' od_sub op_sub (pv' 2) (pv' 1)) (pa_nil')))))
  (pss_cons' (ps_fld' (f := 10) B.c_Sorting B.na_Sorting_busy (pv' 0) (pe_tup' (pa_cons' (pe_str') (pa_cons' (pv' 1) (pa_cons' (pv' 4) (pa_nil'))))))
  (pss_one' (ps_expr' (pe_call' G_place_all (hr.mono (by decide)) (by rfl) (pa_cons' (pe_fld' (f := 4) B.c_Sorting B.na_Sorting_row (pv' 0)) (pa_cons' (pv' 1) (pa_cons' (pe_op' od_add op_addA (pv' 1) (pv' 4)) (pa_cons' (pv' 3) (pa_cons' (pe_fld' (f := 6) B.c_Sorting B.na_Sorting_asker (pv' 0)) (pa_nil'))))))))))) (pss_nil'))
  (pss_cons' (ps_expr' (pe_lm' md_append PySem.F.slot_list_append PySem.F.type_list_append mt_append (pe_fld' (f := 9) B.c_Sorting B.na_Sorting_steps (pv' 0)) (pa_cons' (pe_tup' (pa_cons' (pe_str') (pa_cons' (pv' 1) (pa_cons' (pv' 3) (pa_cons' (pv' 4) (pa_cons' (pe_callB' cd_len call_len (by rfl) B.n_len PySem.boot_len (pa_cons' (pe_fld' (f := 1) B.c_Honest B.na_Honest_log (pe_fld' (f := 6) B.c_Sorting B.na_Sorting_asker (pv' 0))) (pa_nil'))) (pa_nil'))))))) (pa_nil'))))
  (pss_cons' (ps_if' (pt_cmp' od_ne (op_neA hr.units) (pe_fld' (f := 8) B.c_Sorting B.na_Sorting_stack (pv' 0)) (pe_lst' (pa_nil')) (nomark _)) (pss_one' (ps_expr' (pe_meth' (pl := _) G_Sorting_make_room (hr.mono (by decide)) (pv' 0) (pa_cons' (pv' 4) (pa_nil'))))) (pss_nil'))
  (pss_cons' (ps_expr' (pe_lm' md_append PySem.F.slot_list_append PySem.F.type_list_append mt_append (pe_fld' (f := 8) B.c_Sorting B.na_Sorting_stack (pv' 0)) (pa_cons' (pe_tup' (pa_cons' (pv' 1) (pa_cons' (pv' 4) (pa_cons' (pe_non') (pa_nil'))))) (pa_nil'))))
  (pss_one' (ps_ret' (pv' 4))))))))))) (rd_next_piece cl)
def ps_Sorting_go : List Str := ["self"]
def N_Sorting_go : List Str := ["self", "start", "place"]
theorem sc_Sorting_go : FnScope N_Sorting_go ps_Sorting_go (defScope s_Sorting_go) := ⟨rfl, rfl, rfl, by decide +kernel, rfl, by decide +kernel, by decide +kernel⟩
theorem ok_Sorting_go (B : Bl K mg cl) (G_Sorting_join_at : Mtd P w K mg base cl.Sorting "join_at" [] (C_Sorting_join_at cl) 1) (G_Sorting_next_piece : Mtd P w K mg base cl.Sorting "next_piece" [] (C_Sorting_next_piece cl) 5) {f : Addr} {fd : FuncData} (F : FunD K "go" "Sorting.go" (defArgs s_Sorting_go) (defBody s_Sorting_go) (defScope s_Sorting_go) [] [] f fd) : FnOk P w K mg base CX0 6 f fd ps_Sorting_go (liftC K (C_Sorting_go cl)) :=
  fnOkS F sc_Sorting_go (fun ds F R Φ h => by obtain ⟨_, _, _, _, _, _, _, _, _, _, _, _, _, _, e, _⟩ := h; subst e; rfl) (fun cdv A outer s H E hr => pss_cons' (ps_if' (pt_cmp' od_gt op_gt (pe_callB' cd_len call_len (by rfl) B.n_len PySem.boot_len (pa_cons' (pe_fld' (f := 4) B.c_Sorting B.na_Sorting_row (pv' 0)) (pa_nil'))) (pe_int') (nomark _)) (pss_cons' (ps_set' (i := 1) sc_Sorting_go.nd (pe_int'))
  (pss_cons' (ps_while' PassesOwn.never (pt_cmp' od_lt op_lt (pv' 1) (pe_callB' cd_len call_len (by rfl) B.n_len PySem.boot_len (pa_cons' (pe_fld' (f := 4) B.c_Sorting B.na_Sorting_row (pv' 0)) (pa_nil'))) (nomark _)) (pss_one' (ps_aug' (i := 1) sc_Sorting_go.nd od_ipadd ip_add (pe_meth' (pl := _) G_Sorting_next_piece (hr.mono (by decide)) (pv' 0) (pa_cons' (pv' 1) (pa_nil'))))))
  (pss_one' (ps_while' PassesOwn.never (pt_cmp' od_gt op_gt (pe_callB' cd_len call_len (by rfl) B.n_len PySem.boot_len (pa_cons' (pe_fld' (f := 8) B.c_Sorting B.na_Sorting_stack (pv' 0)) (pa_nil'))) (pe_int') (nomark _)) (pss_cons' (ps_set' (i := 2) sc_Sorting_go.nd (pe_op' od_sub op_sub (pe_callB' cd_len call_len (by rfl) B.n_len PySem.boot_len (pa_cons' (pe_fld' (f := 8) B.c_Sorting B.na_Sorting_stack (pv' 0)) (pa_nil'))) (pe_int')))
  (pss_cons' (ps_if' (PW'.pt (pw_and' (pt_cmp' od_gt op_gt (pv' 2) (pe_int') (nomark _)) (pw_and1' (pt_cmp' od_lt op_lt (pe_ix' (pe_ix' (pe_fld' (f := 8) B.c_Sorting B.na_Sorting_stack (pv' 0)) (pe_op' od_sub op_sub (pv' 2) (pe_int'))) (pe_int')) (pe_ix' (pe_ix' (pe_fld' (f := 8) B.c_Sorting B.na_Sorting_stack (pv' 0)) (pe_op' od_add op_addA (pv' 2) (pe_int'))) (pe_int')) (nomark _))))) (pss_one' (ps_aug' (i := 2) sc_Sorting_go.nd od_ipsub ip_sub (pe_int'))) (pss_nil'))
  (pss_one' (ps_expr' (pe_meth' (pl := _) G_Sorting_join_at (hr.mono (by decide)) (pv' 0) (pa_cons' (pv' 2) (pa_nil'))))))))))) (pss_nil'))
  (pss_one' (ps_fld' (f := 10) B.c_Sorting B.na_Sorting_busy (pv' 0) (pe_tup' (pa_cons' (pe_str') (pa_nil')))))) (rd_go cl)
def ps_Joiner___init__ : List Str := ["self", "asker", "patience"]
def N_Joiner___init__ : List Str := ["self", "asker", "patience"]
theorem sc_Joiner___init__ : FnScope N_Joiner___init__ ps_Joiner___init__ (defScope s_Joiner___init__) := ⟨rfl, rfl, rfl, by decide +kernel, rfl, by decide +kernel, by decide +kernel⟩
theorem ok_Joiner___init__ (B : Bl K mg cl)  {f : Addr} {fd : FuncData} (F : FunD K "__init__" "Joiner.__init__" (defArgs s_Joiner___init__) (defBody s_Joiner___init__) (defScope s_Joiner___init__) [.int 7] [] f fd) : FnOk P w K mg base CX0 1 f fd ps_Joiner___init__ (liftC K (C_Joiner___init__ cl)) :=
  fnOkS F sc_Joiner___init__ (fun ds F R Φ h => by obtain ⟨_, _, e, _⟩ := h; subst e; rfl) (fun cdv A outer s H E hr => pss_cons' (ps_asg' (pe_tup' (pa_cons' (pv' 1) (pa_cons' (pv' 2) (pa_nil')))) (pg_tup' rfl (pgs_cons' (pg_fld' (f := 6) B.c_Joiner B.na_Joiner_asker (pv' 0)) (pgs_cons' (pg_fld' (f := 17) B.c_Joiner B.na_Joiner_calm (pv' 0)) (pgs_nil')))))
  (pss_one' (ps_asg' (pe_tup' (pa_cons' (pe_tup' (pa_cons' (pe_int') (pa_cons' (pe_int') (pa_nil')))) (pa_cons' (pe_lst' (pa_nil')) (pa_nil')))) (pg_tup' rfl (pgs_cons' (pg_fld' (f := 29) B.c_Joiner B.na_Joiner_span (pv' 0)) (pgs_cons' (pg_fld' (f := 30) B.c_Joiner B.na_Joiner_aside (pv' 0)) (pgs_nil'))))))) (rd_Joiner_init cl)
def ps_Sorting___init__ : List Str := ["self", "many", "is_turned", "asker"]
def N_Sorting___init__ : List Str := ["self", "many", "is_turned", "asker"]
theorem sc_Sorting___init__ : FnScope N_Sorting___init__ ps_Sorting___init__ (defScope s_Sorting___init__) := ⟨rfl, rfl, rfl, by decide +kernel, rfl, by decide +kernel, by decide +kernel⟩
theorem ok_Sorting___init__ (B : Bl K mg cl) (G_Joiner : Mkd P w K mg base "Joiner" cl.Joiner [.int 7] (C_Joiner___init__ cl) 1) {f : Addr} {fd : FuncData} (F : FunD K "__init__" "Sorting.__init__" (defArgs s_Sorting___init__) (defBody s_Sorting___init__) (defScope s_Sorting___init__) [] [] f fd) : FnOk P w K mg base CX0 3 f fd ps_Sorting___init__ (liftC K (C_Sorting___init__ cl)) :=
  fnOkS F sc_Sorting___init__ (fun ds F R Φ h => by obtain ⟨_, _, _, e, _⟩ := h; subst e; rfl) (fun cdv A outer s H E hr => pss_cons' (ps_asg' (pe_tup' (pa_cons' (pe_listRg1' rfl (by rfl) B.n_list (by rfl) B.n_range (pv' 1)) (pa_cons' (pv' 2) (pa_cons' (pv' 3) (pa_nil'))))) (pg_tup' rfl (pgs_cons' (pg_fld' (f := 4) B.c_Sorting B.na_Sorting_row (pv' 0)) (pgs_cons' (pg_fld' (f := 5) B.c_Sorting B.na_Sorting_is_turned (pv' 0)) (pgs_cons' (pg_fld' (f := 6) B.c_Sorting B.na_Sorting_asker (pv' 0)) (pgs_nil'))))))
  (pss_cons' (ps_asg' (pe_tup' (pa_cons' (pe_make' G_Joiner (no_Joiner cl) (hr.mono (by decide)) (by rfl) (pa_cons' (pv' 3) (pa_nil'))) (pa_cons' (pe_lst' (pa_nil')) (pa_cons' (pe_lst' (pa_nil')) (pa_cons' (pe_tup' (pa_cons' (pe_str') (pa_nil'))) (pa_nil')))))) (pg_tup' rfl (pgs_cons' (pg_fld' (f := 7) B.c_Sorting B.na_Sorting_joiner (pv' 0)) (pgs_cons' (pg_fld' (f := 8) B.c_Sorting B.na_Sorting_stack (pv' 0)) (pgs_cons' (pg_fld' (f := 9) B.c_Sorting B.na_Sorting_steps (pv' 0)) (pgs_cons' (pg_fld' (f := 10) B.c_Sorting B.na_Sorting_busy (pv' 0)) (pgs_nil')))))))
  (pss_one' (ps_if' (pt_tru' (pv' 2)) (pss_one' (ps_expr' (pe_lm0' md_reverse PySem.F.slot_list_reverse PySem.F.type_list_reverse mt_reverse (pe_fld' (f := 4) B.c_Sorting B.na_Sorting_row (pv' 0))))) (pss_nil'))))) (rd_Sorting_init cl)
def ps_Honest___init__ : List Str := ["self", "keys"]
def N_Honest___init__ : List Str := ["self", "keys"]
theorem sc_Honest___init__ : FnScope N_Honest___init__ ps_Honest___init__ (defScope s_Honest___init__) := ⟨rfl, rfl, rfl, by decide +kernel, rfl, by decide +kernel, by decide +kernel⟩
theorem ok_Honest___init__ (B : Bl K mg cl)  {f : Addr} {fd : FuncData} (F : FunD K "__init__" "Honest.__init__" (defArgs s_Honest___init__) (defBody s_Honest___init__) (defScope s_Honest___init__) [] [] f fd) : FnOk P w K mg base CX0 1 f fd ps_Honest___init__ (liftC K (C_Honest___init__ cl)) :=
  fnOkS F sc_Honest___init__ (fun ds F R Φ h => by obtain ⟨_, _, _, e, _⟩ := h; subst e; rfl) (fun cdv A outer s H E hr => pss_one' (ps_asg' (pe_tup' (pa_cons' (pe_callTy' cd_list call_list_of (by rfl) B.n_list (by decide +kernel) (pa_cons' (pv' 1) (pa_nil'))) (pa_cons' (pe_lst' (pa_nil')) (pa_nil')))) (pg_tup' rfl (pgs_cons' (pg_fld' (f := 0) B.c_Honest B.na_Honest_marks (pv' 0)) (pgs_cons' (pg_fld' (f := 1) B.c_Honest B.na_Honest_log (pv' 0)) (pgs_nil')))))) (rd_Honest_init cl)
def ps_sorted_by : List Str := ["keys", "reverse"]
def N_sorted_by : List Str := ["keys", "reverse", "sorting"]
theorem sc_sorted_by : FnScope N_sorted_by ps_sorted_by (defScope s_sorted_by) := ⟨rfl, rfl, rfl, by decide +kernel, rfl, by decide +kernel, by decide +kernel⟩
theorem ok_sorted_by (B : Bl K mg cl) (G_require_bool : Fnd P w K mg base "require_bool" 2 [] (C_require_bool cl) 1) (G_require_keys_1 : Fnd P w K mg base "require_keys" 1 [.int 2000] (C_require_keys cl) 2) (G_Sorting_go : Mtd P w K mg base cl.Sorting "go" [] (C_Sorting_go cl) 6) (G_Sorting : Mkd P w K mg base "Sorting" cl.Sorting [] (C_Sorting___init__ cl) 3) (G_Honest : Mkd P w K mg base "Honest" cl.Honest [] (C_Honest___init__ cl) 1) {f : Addr} {fd : FuncData} (F : FunD K "sorted_by" "sorted_by" (defArgs s_sorted_by) (defBody s_sorted_by) (defScope s_sorted_by) [] [] f fd) : FnOk P w K mg base CX0 7 f fd ps_sorted_by (liftC K (C_sorted_by cl)) :=
  fnOkS F sc_sorted_by (fun ds F R Φ h => by obtain ⟨_, _, e, _⟩ := h; subst e; rfl) (fun cdv A outer s H E hr => pss_cons' (ps_expr' (pe_call' G_require_keys_1 (hr.mono (by decide)) (by rfl) (pa_cons' (pv' 0) (pa_nil'))))
  (pss_cons' (ps_expr' (pe_call' G_require_bool (hr.mono (by decide)) (by rfl) (pa_cons' (pe_str') (pa_cons' (pv' 1) (pa_nil')))))
  (pss_cons' (ps_set' (i := 2) sc_sorted_by.nd (pe_make' G_Sorting (no_Sorting cl) (hr.mono (by decide)) (by rfl) (pa_cons' (pe_callB' cd_len call_len (by rfl) B.n_len PySem.boot_len (pa_cons' (pv' 0) (pa_nil'))) (pa_cons' (pv' 1) (pa_cons' (pe_make' G_Honest (no_Honest cl) (hr.mono (by decide)) (by rfl) (pa_cons' (pv' 0) (pa_nil'))) (pa_nil'))))))
  (pss_cons' (ps_expr' (pe_meth0' (pl := _) G_Sorting_go (hr.mono (by decide)) (pv' 2)))
  (pss_one' (ps_ret' (pv' 2))))))) (rd_sorted_by cl)
def ps_count_of : List Str := ["keys", "reverse"]
def N_count_of : List Str := ["keys", "reverse"]
theorem sc_count_of : FnScope N_count_of ps_count_of (defScope s_count_of) := ⟨rfl, rfl, rfl, by decide +kernel, rfl, by decide +kernel, by decide +kernel⟩
theorem ok_count_of (B : Bl K mg cl) (G_sorted_by : Fnd P w K mg base "sorted_by" 2 [] (C_sorted_by cl) 7) {f : Addr} {fd : FuncData} (F : FunD K "count_of" "count_of" (defArgs s_count_of) (defBody s_count_of) (defScope s_count_of) [] [("reverse", .bl false)] f fd) : FnOk P w K mg base CX0 8 f fd ps_count_of (liftC K (C_count_of cl)) :=
  fnOkS F sc_count_of (fun ds F R Φ h => by obtain ⟨_, _, e, _⟩ := h; subst e; rfl) (fun cdv A outer s H E hr => pss_one' (ps_ret' (pe_callB' cd_len call_len (by rfl) B.n_len PySem.boot_len (pa_cons' (pe_fld' (f := 1) B.c_Honest B.na_Honest_log (pe_fld' (f := 6) B.c_Sorting B.na_Sorting_asker (pe_call' G_sorted_by (hr.mono (by decide)) (by rfl) (pa_cons' (pv' 0) (pa_cons' (pv' 1) (pa_nil')))))) (pa_nil'))))) (rd_count_of cl)
def ps__law_draw : List Str := ["source", "size"]
def N__law_draw : List Str := ["source", "size", "mixed", "digit"]
theorem sc__law_draw : FnScope N__law_draw ps__law_draw (defScope s__law_draw) := ⟨rfl, rfl, rfl, by decide +kernel, rfl, by decide +kernel, by decide +kernel⟩
theorem ok__law_draw (B : Bl K mg cl)  {f : Addr} {fd : FuncData} (F : FunD K "_law_draw" "_law_draw" (defArgs s__law_draw) (defBody s__law_draw) (defScope s__law_draw) [] [] f fd) : FnOk P w K mg base CX0 1 f fd ps__law_draw (liftC K (C__law_draw cl)) :=
  fnOkS F sc__law_draw (fun ds F R Φ h => by obtain ⟨_, _, _, _, _, e, _⟩ := h; subst e; rfl) (fun cdv A outer s H E hr => pss_cons' (ps_if' (pt_cmp' od_gt op_gt (pe_ix' (pv' 0) (pe_int')) (pe_int') (nomark _)) (pss_cons' (ps_set' (i := 3) sc__law_draw.nd (pe_op' od_mod op_mod (pe_callTy' cd_int call_int1 (by rfl) B.n_int (by decide +kernel) (pa_cons' (pe_ix' (pv' 0) (pe_int')) (pa_nil'))) (pv' 1)))
  (pss_cons' (ps_asg' (pe_op' od_fdiv op_fdivW (pe_ix' (pv' 0) (pe_int')) (pv' 1)) (pg_sub' (pv' 0) (pe_int')))
  (pss_one' (ps_ret' (pv' 3))))) (pss_nil'))
  (pss_cons' (ps_asg' (pe_op' od_add op_addA (pe_ix' (pv' 0) (pe_int')) (pe_int')) (pg_sub' (pv' 0) (pe_int')))
  (pss_cons' (ps_set' (i := 2) sc__law_draw.nd (pe_op' od_mod op_mod (pe_callTy' cd_int call_int1 (by rfl) B.n_int (by decide +kernel) (pa_cons' (pe_op' od_mul op_mulA (pe_op' od_add op_addA (pe_op' od_add op_addA (pe_ix' (pv' 0) (pe_int')) (pe_op' od_mul op_mulA (pe_int') (pe_ix' (pv' 0) (pe_int')))) (pe_int')) (pe_int')) (pa_nil'))) (pe_int')))
  (pss_cons' (ps_set' (i := 2) sc__law_draw.nd (pe_op' od_mod op_mod (pe_callTy' cd_int call_int1 (by rfl) B.n_int (by decide +kernel) (pa_cons' (pe_op' od_mul op_mulA (pv' 2) (pe_op' od_add op_addA (pe_op' od_add op_addA (pe_op' od_fdiv op_fdivW (pv' 2) (pe_int')) (pe_int')) (pe_ix' (pv' 0) (pe_int')))) (pa_nil'))) (pe_int')))
  (pss_one' (ps_ret' (pe_op' od_mod op_mod (pe_callTy' cd_int call_int1 (by rfl) B.n_int (by decide +kernel) (pa_cons' (pe_op' od_fdiv op_fdivW (pe_op' od_mod op_mod (pe_callTy' cd_int call_int1 (by rfl) B.n_int (by decide +kernel) (pa_cons' (pe_op' od_mul op_mulA (pv' 2) (pe_op' od_add op_addA (pe_op' od_fdiv op_fdivW (pv' 2) (pe_int')) (pe_int'))) (pa_nil'))) (pe_int')) (pe_int')) (pa_nil'))) (pv' 1)))))))) (rd_law_draw cl)
def ps__law_pick : List Str := ["source", "items"]
def N__law_pick : List Str := ["source", "items"]
theorem sc__law_pick : FnScope N__law_pick ps__law_pick (defScope s__law_pick) := ⟨rfl, rfl, rfl, by decide +kernel, rfl, by decide +kernel, by decide +kernel⟩
theorem ok__law_pick (B : Bl K mg cl) (G__law_draw : Fnd P w K mg base "_law_draw" 2 [] (C__law_draw cl) 1) {f : Addr} {fd : FuncData} (F : FunD K "_law_pick" "_law_pick" (defArgs s__law_pick) (defBody s__law_pick) (defScope s__law_pick) [] [] f fd) : FnOk P w K mg base CX0 2 f fd ps__law_pick (liftC K (C__law_pick cl)) :=
  fnOkS F sc__law_pick (fun ds F R Φ h => by obtain ⟨_, _, _, _, _, _, e, _⟩ := h; subst e; rfl) (fun cdv A outer s H E hr => pss_one' (ps_ret' (pe_ix' (pv' 1) (pe_call' G__law_draw (hr.mono (by decide)) (by rfl) (pa_cons' (pv' 0) (pa_cons' (pe_callB' cd_len call_len (by rfl) B.n_len PySem.boot_len (pa_cons' (pv' 1) (pa_nil'))) (pa_nil'))))))) (rd_law_pick cl)
def ps__law_given : List Str := ["source", "parts"]
def N__law_given : List Str := ["source", "parts", "part", "found", "number"]
theorem sc__law_given : FnScope N__law_given ps__law_given (defScope s__law_given) := ⟨rfl, rfl, rfl, by decide +kernel, rfl, by decide +kernel, by decide +kernel⟩
theorem ok__law_given (B : Bl K mg cl) (G__law_draw : Fnd P w K mg base "_law_draw" 2 [] (C__law_draw cl) 1) (G__law_pick : Fnd P w K mg base "_law_pick" 2 [] (C__law_pick cl) 2) {f : Addr} {fd : FuncData} (F : FunD K "_law_given" "_law_given" (defArgs s__law_given) (defBody s__law_given) (defScope s__law_given) [] [] f fd) : FnOk P w K mg base CX0 3 f fd ps__law_given (liftC K (C__law_given cl)) :=
  fnOkS F sc__law_given (fun ds F R Φ h => by obtain ⟨_, _, _, _, _, _, e, _⟩ := h; subst e; rfl) (fun cdv A outer s H E hr => pss_cons' (ps_par' (i := 3) (j := 4) rfl sc__law_given.nd (by decide) (pa_cons' (pe_lst' (pa_nil')) (pa_cons' (pe_call' G__law_draw (hr.mono (by decide)) (by rfl) (pa_cons' (pv' 0) (pa_cons' (pe_op' od_pow op_pow (pe_int') (pe_int')) (pa_nil')))) (pa_nil'))))
  (pss_cons' (ps_for' PassesOwn.never rfl (pi_seq' (pv' 1)) (pg_name' (i := 2) sc__law_given.nd) (pss_cons' (ps_set' (i := 3) sc__law_given.nd (pe_op' od_add op_addA (pv' 3) (pe_op' od_mul op_mulA (pe_lst' (pa_cons' (pv' 4) (pa_nil'))) (pv' 2))))
  (pss_one' (ps_set' (i := 4) sc__law_given.nd (pe_op' od_sub op_sub (pe_op' od_sub op_sub (pv' 4) (pe_int')) (pe_call' G__law_draw (hr.mono (by decide)) (by rfl) (pa_cons' (pv' 0) (pa_cons' (pe_call' G__law_pick (hr.mono (by decide)) (by rfl) (pa_cons' (pv' 0) (pa_cons' (pe_lst' (pa_cons' (pe_int') (pa_cons' (pe_int') (pa_cons' (pe_op' od_pow op_pow (pe_int') (pe_int')) (pa_nil'))))) (pa_nil')))) (pa_nil')))))))))
  (pss_one' (ps_ret' (pv' 3))))) (rd_law_given cl)
def ps__law_due : List Str := ["parts"]
def N__law_due : List Str := ["parts", "total"]
theorem sc__law_due : FnScope N__law_due ps__law_due (defScope s__law_due) := ⟨rfl, rfl, rfl, by decide +kernel, rfl, by decide +kernel, by decide +kernel⟩
theorem ok__law_due (B : Bl K mg cl)  {f : Addr} {fd : FuncData} (F : FunD K "_law_due" "_law_due" (defArgs s__law_due) (defBody s__law_due) (defScope s__law_due) [] [] f fd) : FnOk P w K mg base CX0 1 f fd ps__law_due (liftC K (C__law_due cl)) :=
  fnOkS F sc__law_due (fun ds F R Φ h => by obtain ⟨_, _, e, _⟩ := h; subst e; rfl) (fun cdv A outer s H E hr => pss_cons' (ps_set' (i := 1) sc__law_due.nd (pe_callB' cd_sum (cr_sum rfl) (by rfl) B.n_sum boot_sum (pa_cons' (pv' 0) (pa_nil'))))
  (pss_cons' (ps_if' (pt_cmp' od_eq (op_eqA hr.units) (pe_callB' cd_len call_len (by rfl) B.n_len PySem.boot_len (pa_cons' (pv' 0) (pa_nil'))) (pe_int') (nomark _)) (pss_one' (ps_ret' (pe_op' od_sub op_sub (pv' 1) (pe_int')))) (pss_nil'))
  (pss_one' (ps_ret' (pe_op' od_add op_addA (pe_op' od_sub op_sub (pe_op' od_sub op_sub (pe_op' od_mul op_mulA (pe_int') (pv' 1)) (pe_ix' (pv' 0) (pe_int'))) (pe_callB' cd_len call_len (by rfl) B.n_len PySem.boot_len (pa_cons' (pv' 0) (pa_nil')))) (pe_callTy' cd_int call_int1 (by rfl) B.n_int (by decide +kernel) (pa_cons' (pe_cmp' od_gt op_gt (pe_ix' (pv' 0) (pe_int')) (pe_int') (nomark _)) (pa_nil')))))))) (rd_law_due cl)
def ps__law_right : List Str := ["source"]
def N__law_right : List Str := ["source", "parts", "due", "stood", "go"]
theorem sc__law_right : FnScope N__law_right ps__law_right (defScope s__law_right) := ⟨rfl, rfl, rfl, by decide +kernel, rfl, by decide +kernel, by decide +kernel⟩
theorem ok__law_right (B : Bl K mg cl) (G_count_of_1 : Fnd P w K mg base "count_of" 1 [.bl false] (C_count_of cl) 8) (G__law_given : Fnd P w K mg base "_law_given" 2 [] (C__law_given cl) 3) (G_count_of_falling : Fnd P w K mg base "count_of_falling" 1 [] (C_count_of_falling cl) 3) (G_count_of_falling__k0_lengths : Fnk P w K mg base "count_of_falling" 0 ["lengths"] g_count_of_falling__k0_lengths (C_count_of_falling cl) 3) (G__law_due : Fnd P w K mg base "_law_due" 1 [] (C__law_due cl) 1) (G__law_draw : Fnd P w K mg base "_law_draw" 2 [] (C__law_draw cl) 1) (G__law_pick : Fnd P w K mg base "_law_pick" 2 [] (C__law_pick cl) 2) {f : Addr} {fd : FuncData} (F : FunD K "_law_right" "_law_right" (defArgs s__law_right) (defBody s__law_right) (defScope s__law_right) [] [] f fd) : FnOk P w K mg base CX0 9 f fd ps__law_right (liftC K (C__law_right cl)) :=
  fnOkS F sc__law_right (fun ds F R Φ h => by obtain ⟨_, _, _, _, e, _⟩ := h; subst e; rfl) (fun cdv A outer s H E hr => pss_cons' (ps_setLc' (i := 1) (own := [("go", 4)]) (g := gName 4) (g' := gName' 4) rfl sc__law_right.nd (pi_range1' (by rfl) B.n_range (pa_cons' (pe_op' od_add op_addA (pe_int') (pe_call' G__law_draw (hr.mono (by decide)) (by rfl) (pa_cons' (pv' 0) (pa_cons' (pe_int') (pa_nil'))))) (pa_nil'))) (blkOk_by (own := [("go", 4)]) (N := N__law_right) (sc := defScope s__law_right) (by decide +kernel)) (own_name (by decide)) (fun _ _ _ _ _ => pg_name (i := 4) sc__law_right.nd rfl (Or.inl rfl)) (fun _ _ _ _ _ => pts_nil') (fun _ _ _ _ _ => pe_op' od_add op_addA (pe_int') (pe_call' G__law_draw (hr.mono (by decide)) (by rfl) (pa_cons' (pv' 0) (pa_cons' (pe_call' G__law_pick (hr.mono (by decide)) (by rfl) (pa_cons' (pv' 0) (pa_cons' (pe_lst' (pa_cons' (pe_int') (pa_cons' (pe_int') (pa_cons' (pe_int') (pa_cons' (pe_int') (pa_nil')))))) (pa_nil')))) (pa_nil'))))))
  (pss_cons' (ps_par' (i := 2) (j := 3) rfl sc__law_right.nd (by decide) (pa_cons' (pe_call' G__law_due (hr.mono (by decide)) (by rfl) (pa_cons' (pv' 1) (pa_nil'))) (pa_cons' (pe_callTy' cd_list call_list_of (by rfl) B.n_list (by decide +kernel) (pa_cons' (pv' 1) (pa_nil'))) (pa_nil'))))
  (pss_cons' (ps_if' (PW'.pt (pw_or' (pt_cmp' od_ne (op_neA hr.units) (pe_call' G_count_of_falling (hr.mono (by decide)) (by rfl) (pa_cons' (pv' 1) (pa_nil'))) (pv' 2) (nomark _)) (pw_or' (pt_cmp' od_ne (op_neA hr.units) (pe_callK0' G_count_of_falling__k0_lengths (hr.mono (by decide)) (by rfl) (pk_cons' (pe_callTy' cd_tuple call_tuple_of (by rfl) B.n_tuple (by decide +kernel) (pa_cons' (pv' 1) (pa_nil'))) (pk_nil'))) (pv' 2) (nomark _)) (pw_or1' (pt_cmp' od_ne (op_neA hr.units) (pv' 1) (pv' 3) (nomark _)))))) (pss_one' (ps_ret' (pe_bl'))) (pss_nil'))
  (pss_one' (ps_ret' (pe_cmp' od_eq (op_eqA hr.units) (pe_call' G_count_of_1 (hr.mono (by decide)) (by rfl) (pa_cons' (pe_call' G__law_given (hr.mono (by decide)) (by rfl) (pa_cons' (pv' 0) (pa_cons' (pv' 1) (pa_nil')))) (pa_nil'))) (pv' 2) (nomark _))))))) (rd_law_right cl)
def ps__law_great_right : List Str := ["source"]
def N__law_great_right : List Str := ["source", "size", "parts", "go"]
theorem sc__law_great_right : FnScope N__law_great_right ps__law_great_right (defScope s__law_great_right) := ⟨rfl, rfl, rfl, by decide +kernel, rfl, by decide +kernel, by decide +kernel⟩
theorem ok__law_great_right (B : Bl K mg cl) (G_count_of_falling : Fnd P w K mg base "count_of_falling" 1 [] (C_count_of_falling cl) 3) (G__law_due : Fnd P w K mg base "_law_due" 1 [] (C__law_due cl) 1) (G__law_draw : Fnd P w K mg base "_law_draw" 2 [] (C__law_draw cl) 1) (G__law_pick : Fnd P w K mg base "_law_pick" 2 [] (C__law_pick cl) 2) {f : Addr} {fd : FuncData} (F : FunD K "_law_great_right" "_law_great_right" (defArgs s__law_great_right) (defBody s__law_great_right) (defScope s__law_great_right) [] [] f fd) : FnOk P w K mg base CX0 4 f fd ps__law_great_right (liftC K (C__law_great_right cl)) :=
  fnOkS F sc__law_great_right (fun ds F R Φ h => by obtain ⟨_, _, _, _, e, _⟩ := h; subst e; rfl) (fun cdv A outer s H E hr => pss_cons' (ps_set' (i := 1) sc__law_great_right.nd (pe_op' od_add op_addA (pe_int') (pe_call' G__law_draw (hr.mono (by decide)) (by rfl) (pa_cons' (pv' 0) (pa_cons' (pe_call' G__law_pick (hr.mono (by decide)) (by rfl) (pa_cons' (pv' 0) (pa_cons' (pe_lst' (pa_cons' (pe_int') (pa_cons' (pe_int') (pa_cons' (pe_int') (pa_nil'))))) (pa_nil')))) (pa_nil'))))))
  (pss_cons' (ps_setLc' (i := 2) (own := [("go", 3)]) (g := gName 3) (g' := gName' 3) rfl sc__law_great_right.nd (pi_range1' (by rfl) B.n_range (pa_cons' (pv' 1) (pa_nil'))) (blkOk_by (own := [("go", 3)]) (N := N__law_great_right) (sc := defScope s__law_great_right) (by decide +kernel)) (own_name (by decide)) (fun _ _ _ _ _ => pg_name (i := 3) sc__law_great_right.nd rfl (Or.inl rfl)) (fun _ _ _ _ _ => pts_nil') (fun _ _ _ _ _ => pe_op' od_add op_addA (pe_int') (pe_call' G__law_draw (hr.mono (by decide)) (by rfl) (pa_cons' (pv' 0) (pa_cons' (pe_call' G__law_pick (hr.mono (by decide)) (by rfl) (pa_cons' (pv' 0) (pa_cons' (pe_lst' (pa_cons' (pe_int') (pa_cons' (pe_int') (pa_cons' (pe_op' od_pow op_pow (pe_int') (pe_int')) (pa_cons' (pe_op' od_pow op_pow (pe_int') (pe_int')) (pa_nil')))))) (pa_nil')))) (pa_nil'))))))
  (pss_one' (ps_ret' (pe_cmp' od_eq (op_eqA hr.units) (pe_call' G_count_of_falling (hr.mono (by decide)) (by rfl) (pa_cons' (pv' 2) (pa_nil'))) (pe_call' G__law_due (hr.mono (by decide)) (by rfl) (pa_cons' (pv' 2) (pa_nil'))) (nomark _)))))) (rd_law_great_right cl)
def ps__law_source : List Str := ["cell"]
def N__law_source : List Str := ["cell"]
theorem sc__law_source : FnScope N__law_source ps__law_source (defScope s__law_source) := ⟨rfl, rfl, rfl, by decide +kernel, rfl, by decide +kernel, by decide +kernel⟩
theorem ok__law_source (B : Bl K mg cl)  {f : Addr} {fd : FuncData} (F : FunD K "_law_source" "_law_source" (defArgs s__law_source) (defBody s__law_source) (defScope s__law_source) [] [] f fd) : FnOk P w K mg base CX0 1 f fd ps__law_source (liftC K (C__law_source cl)) :=
  fnOkS F sc__law_source (fun ds F R Φ h => by obtain ⟨_, e, _⟩ := h; subst e; rfl) (fun cdv A outer s H E hr => pss_one' (ps_ret' (pe_lst' (pa_cons' (pe_op' od_mul op_mulA (pe_callB' cd_abs call_abs (by rfl) B.n_abs boot_abs (pa_cons' (pv' 0) (pa_nil'))) (pe_callTy' cd_int call_int1 (by rfl) B.n_int (by decide +kernel) (pa_cons' (pe_cmp' od_ge op_ge (pe_callB' cd_abs call_abs (by rfl) B.n_abs boot_abs (pa_cons' (pv' 0) (pa_nil'))) (pe_op' od_pow op_pow (pe_int') (pe_int')) (nomark _)) (pa_nil')))) (pa_cons' (pe_op' od_mod op_mod (pe_callTy' cd_int call_int1 (by rfl) B.n_int (by decide +kernel) (pa_cons' (pv' 0) (pa_nil'))) (pe_int')) (pa_cons' (pe_int') (pa_nil'))))))) (rd_law_source cl)
def ps_law : List Str := ["script"]
def N_law : List Str := ["script", "cell", "source", "go", "parts"]
theorem sc_law : FnScope N_law ps_law (defScope s_law) := ⟨rfl, rfl, rfl, by decide +kernel, rfl, by decide +kernel, by decide +kernel⟩
theorem ok_law (B : Bl K mg cl) (G_count_of_falling : Fnd P w K mg base "count_of_falling" 1 [] (C_count_of_falling cl) 3) (G__law_right : Fnd P w K mg base "_law_right" 1 [] (C__law_right cl) 9) (G__law_great_right : Fnd P w K mg base "_law_great_right" 1 [] (C__law_great_right cl) 4) (G__law_source : Fnd P w K mg base "_law_source" 1 [] (C__law_source cl) 1) {f : Addr} {fd : FuncData} (F : FunD K "law" "law" (defArgs s_law) (defBody s_law) (defScope s_law) [] [] f fd) : FnOk P w K mg base CX0 10 f fd ps_law (liftC K (C_law cl)) :=
  fnOkS F sc_law (fun ds F R Φ h => by obtain ⟨_, _, e, _⟩ := h; subst e; rfl) (fun cdv A outer s H E hr => pss_cons' (ps_for' PassesOwn.never rfl (pi_seq' (pe_slice' (pe_op' od_add op_addA (pv' 0) (pe_lst' (pa_cons' (pe_int') (pa_nil')))) (po_none') (po_some' (pe_int')))) (pg_name' (i := 1) sc_law.nd) (pss_cons' (ps_set' (i := 2) sc_law.nd (pe_call' G__law_source (hr.mono (by decide)) (by rfl) (pa_cons' (pv' 1) (pa_nil'))))
  (pss_one' (ps_for' PassesOwn.never rfl (pi_range1' (by rfl) B.n_range (pa_cons' (pe_int') (pa_nil'))) (pg_name' (i := 3) sc_law.nd) (pss_one' (ps_if' (PW'.pt (pw_or' (pt_not' (pt_tru' (pe_call' G__law_right (hr.mono (by decide)) (by rfl) (pa_cons' (pv' 2) (pa_nil'))))) (pw_or1' (pt_not' (pt_tru' (pe_call' G__law_great_right (hr.mono (by decide)) (by rfl) (pa_cons' (pv' 2) (pa_nil')))))))) (pss_one' (ps_ret' (pe_bl'))) (pss_nil')))))))
  (pss_cons' (ps_if' (pt_cmp' od_ne (op_neA hr.units) (pe_call' G_count_of_falling (hr.mono (by decide)) (by rfl) (pa_cons' (pe_op' od_mul op_mulA (pe_lst' (pa_cons' (pe_op' od_pow op_pow (pe_int') (pe_int')) (pa_nil'))) (pe_int')) (pa_nil'))) (pe_op' od_sub op_sub (pe_op' od_sub op_sub (pe_op' od_mul op_mulA (pe_int') (pe_op' od_pow op_pow (pe_int') (pe_int'))) (pe_op' od_pow op_pow (pe_int') (pe_int'))) (pe_int')) (nomark _)) (pss_one' (ps_ret' (pe_bl'))) (pss_nil'))
  (pss_one' (ps_ret' (pe_cmp' od_eq (op_eqA hr.units) (pe_lc' (own := [("parts", 4)]) (g := gName 4) (g' := gName' 4) rfl sc_law.nd (pi_seq' (pe_tup' (pa_cons' (pe_lst' (pa_cons' (pe_int') (pa_nil'))) (pa_cons' (pe_lst' (pa_cons' (pe_int') (pa_nil'))) (pa_cons' (pe_lst' (pa_cons' (pe_int') (pa_cons' (pe_int') (pa_nil')))) (pa_cons' (pe_lst' (pa_cons' (pe_int') (pa_cons' (pe_int') (pa_nil')))) (pa_cons' (pe_lst' (pa_cons' (pe_int') (pa_cons' (pe_int') (pa_nil')))) (pa_cons' (pe_lst' (pa_cons' (pe_int') (pa_cons' (pe_int') (pa_cons' (pe_int') (pa_nil'))))) (pa_nil'))))))))) (blkOk_by (own := [("parts", 4)]) (N := N_law) (sc := defScope s_law) (by decide +kernel)) (own_name (by decide)) (fun _ _ _ _ _ => pg_name (i := 4) sc_law.nd rfl (Or.inl rfl)) (fun _ _ _ _ _ => pts_nil') (fun _ _ _ _ _ => pe_call' G_count_of_falling (hr.mono (by decide)) (by rfl) (pa_cons' (pv' 4) (pa_nil')))) (pe_lst' (pa_cons' (pe_int') (pa_cons' (pe_int') (pa_cons' (pe_int') (pa_cons' (pe_int') (pa_cons' (pe_int') (pa_cons' (pe_int') (pa_nil')))))))) (nomark _)))))) (rd_law cl)
end
end K77

namespace K77
open PySem PySem.Spec PyProof.Rows L2 DL
def clK (K : PySem.W.Frag) : Cl := ⟨He.ga K "Honest", 0, 0, He.ga K "Sorting", He.ga K "Joiner", He.ga K "Amid", 0, 0, 0, 0, 0, 0, 0, 0, 0⟩
theorem facts {P : Program} {w : World} {K : PySem.W.Frag} {h : Heap} {mg : Str → Option Value} {f : Addr} (X : K.In h) (G : h.Ns mainGlobals mg) (hfa : mg ("law" : Str) = some (.ref f)) (c : He.SaysX fa fn [] [] ex w h K) :
    ∃ fd : FuncData, (∀ (s : Shared) (v : Value), BindsTo s fd ⟨[v], []⟩ [("script", v)]) ∧ ∀ base : Heap, K.In base → base.Ns mainGlobals mg → FnOk P w K mg base CX0 10 f fd ["script"] (liftC K (C_law (clK K))) := by
  have B : Bl K mg (clK K) := {
    c_Honest := He.cls_ok (c.t.d.fact 6 (f := .cls "Honest") rfl)
    c_Joiner := He.cls_ok (c.t.d.fact 31 (f := .cls "Joiner") rfl)
    c_Sorting := He.cls_ok (c.t.d.fact 40 (f := .cls "Sorting") rfl)
    i_MAX_PLACED := He.int_ok X G (c.t.d.fact 83 (f := .int "MAX_PLACED" 64) rfl)
    i_MAX_STRETCH := He.int_ok X G (c.t.d.fact 85 (f := .int "MAX_STRETCH" 1000000000000000000) rfl)
    i_MAX_STRETCHES := He.int_ok X G (c.t.d.fact 84 (f := .int "MAX_STRETCHES" 300) rfl)
    n_abs := He.free_ok X G (c.t.d.fact 88 (f := .free "abs") rfl)
    n_bool := He.free_ok X G (c.t.d.fact 89 (f := .free "bool") rfl)
    n_enumerate := He.free_ok X G (c.t.d.fact 90 (f := .free "enumerate") rfl)
    n_int := He.free_ok X G (c.t.d.fact 91 (f := .free "int") rfl)
    n_isinstance := He.free_ok X G (c.t.d.fact 92 (f := .free "isinstance") rfl)
    n_len := He.free_ok X G (c.t.d.fact 93 (f := .free "len") rfl)
    n_list := He.free_ok X G (c.t.d.fact 94 (f := .free "list") rfl)
    n_min := He.free_ok X G (c.t.d.fact 96 (f := .free "min") rfl)
    n_range := He.free_ok X G (c.t.d.fact 97 (f := .free "range") rfl)
    n_sum := He.free_ok X G (c.t.d.fact 98 (f := .free "sum") rfl)
    n_tuple := He.free_ok X G (c.t.d.fact 99 (f := .free "tuple") rfl)
    na_Honest_log := He.noat_ok (c.t.d.fact 9 (f := .noat "Honest" "log") rfl)
    na_Honest_marks := He.noat_ok (c.t.d.fact 8 (f := .noat "Honest" "marks") rfl)
    na_Joiner_aside := He.noat_ok (c.t.d.fact 34 (f := .noat "Joiner" "aside") rfl)
    na_Joiner_asker := He.noat_ok (c.t.d.fact 35 (f := .noat "Joiner" "asker") rfl)
    na_Joiner_calm := He.noat_ok (c.t.d.fact 36 (f := .noat "Joiner" "calm") rfl)
    na_Joiner_span := He.noat_ok (c.t.d.fact 33 (f := .noat "Joiner" "span") rfl)
    na_Sorting_asker := He.noat_ok (c.t.d.fact 45 (f := .noat "Sorting" "asker") rfl)
    na_Sorting_busy := He.noat_ok (c.t.d.fact 42 (f := .noat "Sorting" "busy") rfl)
    na_Sorting_is_turned := He.noat_ok (c.t.d.fact 44 (f := .noat "Sorting" "is_turned") rfl)
    na_Sorting_joiner := He.noat_ok (c.t.d.fact 46 (f := .noat "Sorting" "joiner") rfl)
    na_Sorting_row := He.noat_ok (c.t.d.fact 43 (f := .noat "Sorting" "row") rfl)
    na_Sorting_stack := He.noat_ok (c.t.d.fact 47 (f := .noat "Sorting" "stack") rfl)
    na_Sorting_steps := He.noat_ok (c.t.d.fact 48 (f := .noat "Sorting" "steps") rfl)
  }
  obtain ⟨fd_is_integer, F_is_integer⟩ : ∃ fd, FunD K "is_integer" "is_integer" (defArgs s_is_integer) (defBody s_is_integer) (defScope s_is_integer) [] [] (He.fAd K ("is_integer", none)) fd := c.t.d.def_ 2 rfl
  obtain ⟨fd_is_between, F_is_between⟩ : ∃ fd, FunD K "is_between" "is_between" (defArgs s_is_between) (defBody s_is_between) (defScope s_is_between) [] [] (He.fAd K ("is_between", none)) fd := c.t.d.def_ 3 rfl
  obtain ⟨fd_count_of_falling, F_count_of_falling⟩ : ∃ fd, FunD K "count_of_falling" "count_of_falling" (defArgs s_count_of_falling) (defBody s_count_of_falling) (defScope s_count_of_falling) [] [] (He.fAd K ("count_of_falling", none)) fd := c.t.d.def_ 14 rfl
  obtain ⟨fd_require_bool, F_require_bool⟩ : ∃ fd, FunD K "require_bool" "require_bool" (defArgs s_require_bool) (defBody s_require_bool) (defScope s_require_bool) [] [] (He.fAd K ("require_bool", none)) fd := c.t.d.def_ 5 rfl
  obtain ⟨fd_require_keys, F_require_keys⟩ : ∃ fd, FunD K "require_keys" "require_keys" (defArgs s_require_keys) (defBody s_require_keys) (defScope s_require_keys) [.int 2000] [] (He.fAd K ("require_keys", none)) fd := c.t.d.def_ 4 rfl
  obtain ⟨fd_Sorting_join_at, F_Sorting_join_at⟩ : ∃ fd, FunD K "join_at" "Sorting.join_at" (defArgs s_Sorting_join_at) (defBody s_Sorting_join_at) (defScope s_Sorting_join_at) [] [] (He.fAd K ("Sorting", some "join_at")) fd := c.t.d.def_ 37 rfl
  obtain ⟨fd_place_all, F_place_all⟩ : ∃ fd, FunD K "place_all" "place_all" (defArgs s_place_all) (defBody s_place_all) (defScope s_place_all) [] [] (He.fAd K ("place_all", none)) fd := c.t.d.def_ 8 rfl
  obtain ⟨fd_least_of, F_least_of⟩ : ∃ fd, FunD K "least_of" "least_of" (defArgs s_least_of) (defBody s_least_of) (defScope s_least_of) [] [] (He.fAd K ("least_of", none)) fd := c.t.d.def_ 6 rfl
  obtain ⟨fd_Honest_less, F_Honest_less⟩ : ∃ fd, FunD K "less" "Honest.less" (defArgs s_Honest_less) (defBody s_Honest_less) (defScope s_Honest_less) [] [] (He.fAd K ("Honest", some "less")) fd := c.t.d.def_ 1 rfl
  obtain ⟨fd_rising_end, F_rising_end⟩ : ∃ fd, FunD K "rising_end" "rising_end" (defArgs s_rising_end) (defBody s_rising_end) (defScope s_rising_end) [] [] (He.fAd K ("rising_end", none)) fd := c.t.d.def_ 11 rfl
  obtain ⟨fd_turn_about, F_turn_about⟩ : ∃ fd, FunD K "turn_about" "turn_about" (defArgs s_turn_about) (defBody s_turn_about) (defScope s_turn_about) [] [] (He.fAd K ("turn_about", none)) fd := c.t.d.def_ 9 rfl
  obtain ⟨fd_turn_equal, F_turn_equal⟩ : ∃ fd, FunD K "turn_equal" "turn_equal" (defArgs s_turn_equal) (defBody s_turn_equal) (defScope s_turn_equal) [] [] (He.fAd K ("turn_equal", none)) fd := c.t.d.def_ 10 rfl
  obtain ⟨fd_falling_end, F_falling_end⟩ : ∃ fd, FunD K "falling_end" "falling_end" (defArgs s_falling_end) (defBody s_falling_end) (defScope s_falling_end) [] [] (He.fAd K ("falling_end", none)) fd := c.t.d.def_ 12 rfl
  obtain ⟨fd_find_run, F_find_run⟩ : ∃ fd, FunD K "find_run" "find_run" (defArgs s_find_run) (defBody s_find_run) (defScope s_find_run) [] [] (He.fAd K ("find_run", none)) fd := c.t.d.def_ 13 rfl
  obtain ⟨fd_Sorting_make_room, F_Sorting_make_room⟩ : ∃ fd, FunD K "make_room" "Sorting.make_room" (defArgs s_Sorting_make_room) (defBody s_Sorting_make_room) (defScope s_Sorting_make_room) [] [] (He.fAd K ("Sorting", some "make_room")) fd := c.t.d.def_ 36 rfl
  obtain ⟨fd_Sorting_next_piece, F_Sorting_next_piece⟩ : ∃ fd, FunD K "next_piece" "Sorting.next_piece" (defArgs s_Sorting_next_piece) (defBody s_Sorting_next_piece) (defScope s_Sorting_next_piece) [] [] (He.fAd K ("Sorting", some "next_piece")) fd := c.t.d.def_ 35 rfl
  obtain ⟨fd_Sorting_go, F_Sorting_go⟩ : ∃ fd, FunD K "go" "Sorting.go" (defArgs s_Sorting_go) (defBody s_Sorting_go) (defScope s_Sorting_go) [] [] (He.fAd K ("Sorting", some "go")) fd := c.t.d.def_ 34 rfl
  obtain ⟨fd_Joiner___init__, F_Joiner___init__⟩ : ∃ fd, FunD K "__init__" "Joiner.__init__" (defArgs s_Joiner___init__) (defBody s_Joiner___init__) (defScope s_Joiner___init__) [.int 7] [] (He.fAd K ("Joiner", some "__init__")) fd := c.t.d.def_ 29 rfl
  obtain ⟨fd_Sorting___init__, F_Sorting___init__⟩ : ∃ fd, FunD K "__init__" "Sorting.__init__" (defArgs s_Sorting___init__) (defBody s_Sorting___init__) (defScope s_Sorting___init__) [] [] (He.fAd K ("Sorting", some "__init__")) fd := c.t.d.def_ 33 rfl
  obtain ⟨fd_Honest___init__, F_Honest___init__⟩ : ∃ fd, FunD K "__init__" "Honest.__init__" (defArgs s_Honest___init__) (defBody s_Honest___init__) (defScope s_Honest___init__) [] [] (He.fAd K ("Honest", some "__init__")) fd := c.t.d.def_ 0 rfl
  obtain ⟨fd_sorted_by, F_sorted_by⟩ : ∃ fd, FunD K "sorted_by" "sorted_by" (defArgs s_sorted_by) (defBody s_sorted_by) (defScope s_sorted_by) [] [] (He.fAd K ("sorted_by", none)) fd := c.t.d.def_ 39 rfl
  obtain ⟨fd_count_of, F_count_of⟩ : ∃ fd, FunD K "count_of" "count_of" (defArgs s_count_of) (defBody s_count_of) (defScope s_count_of) [] [("reverse", .bl false)] (He.fAd K ("count_of", none)) fd := c.t.d.def_ 40 rfl
  obtain ⟨fd__law_draw, F__law_draw⟩ : ∃ fd, FunD K "_law_draw" "_law_draw" (defArgs s__law_draw) (defBody s__law_draw) (defScope s__law_draw) [] [] (He.fAd K ("_law_draw", none)) fd := c.t.d.def_ 42 rfl
  obtain ⟨fd__law_pick, F__law_pick⟩ : ∃ fd, FunD K "_law_pick" "_law_pick" (defArgs s__law_pick) (defBody s__law_pick) (defScope s__law_pick) [] [] (He.fAd K ("_law_pick", none)) fd := c.t.d.def_ 43 rfl
  obtain ⟨fd__law_given, F__law_given⟩ : ∃ fd, FunD K "_law_given" "_law_given" (defArgs s__law_given) (defBody s__law_given) (defScope s__law_given) [] [] (He.fAd K ("_law_given", none)) fd := c.t.d.def_ 45 rfl
  obtain ⟨fd__law_due, F__law_due⟩ : ∃ fd, FunD K "_law_due" "_law_due" (defArgs s__law_due) (defBody s__law_due) (defScope s__law_due) [] [] (He.fAd K ("_law_due", none)) fd := c.t.d.def_ 44 rfl
  obtain ⟨fd__law_right, F__law_right⟩ : ∃ fd, FunD K "_law_right" "_law_right" (defArgs s__law_right) (defBody s__law_right) (defScope s__law_right) [] [] (He.fAd K ("_law_right", none)) fd := c.t.d.def_ 46 rfl
  obtain ⟨fd__law_great_right, F__law_great_right⟩ : ∃ fd, FunD K "_law_great_right" "_law_great_right" (defArgs s__law_great_right) (defBody s__law_great_right) (defScope s__law_great_right) [] [] (He.fAd K ("_law_great_right", none)) fd := c.t.d.def_ 47 rfl
  obtain ⟨fd__law_source, F__law_source⟩ : ∃ fd, FunD K "_law_source" "_law_source" (defArgs s__law_source) (defBody s__law_source) (defScope s__law_source) [] [] (He.fAd K ("_law_source", none)) fd := c.t.d.def_ 41 rfl
  obtain ⟨fd_law, F_law⟩ : ∃ fd, FunD K "law" "law" (defArgs s_law) (defBody s_law) (defScope s_law) [] [] (He.fAd K ("law", none)) fd := c.t.d.def_ 48 rfl
  have e := hfa.symm.trans (He.glo_ok X G (c.t.d.fact 81 (f := .glo "law") rfl))
  cases e
  refine ⟨fd_law, fun s v => FunD.bindsA (ps := ["script"]) F_law (fun _ _ _ _ _ _ us hl => match us, hl with | [_], _ => rfl) s [v] rfl, fun base _ _ => ?_⟩
  have ok_is_integer : FnOk P w K mg base CX0 1 _ fd_is_integer ps_is_integer (liftC K (C_is_integer (clK K))) := ok_is_integer B  F_is_integer
  have G_is_integer : Fnd P w K mg base "is_integer" 1 [] (C_is_integer (clK K)) 1 := ⟨_, fd_is_integer, ps_is_integer, [], [], He.glo_ok X G (c.t.d.fact 54 (f := .glo "is_integer") rfl), F_is_integer.kp, F_is_integer.bindsN fun _ _ _ _ _ _ us hl => match us, hl with | [_], _ => rfl, .nil, fun _ => .nil, ok_is_integer⟩
  have ok_is_between : FnOk P w K mg base CX0 2 _ fd_is_between ps_is_between (liftC K (C_is_between (clK K))) := ok_is_between B G_is_integer F_is_between
  have G_is_between : Fnd P w K mg base "is_between" 3 [] (C_is_between (clK K)) 2 := ⟨_, fd_is_between, ps_is_between, [], [], He.glo_ok X G (c.t.d.fact 55 (f := .glo "is_between") rfl), F_is_between.kp, F_is_between.bindsN fun _ _ _ _ _ _ us hl => match us, hl with | [_, _, _], _ => rfl, .nil, fun _ => .nil, ok_is_between⟩
  have ok_count_of_falling : FnOk P w K mg base CX0 3 _ fd_count_of_falling ps_count_of_falling (liftC K (C_count_of_falling (clK K))) := ok_count_of_falling B G_is_between F_count_of_falling
  have ok_require_bool : FnOk P w K mg base CX0 1 _ fd_require_bool ps_require_bool (liftC K (C_require_bool (clK K))) := ok_require_bool B  F_require_bool
  have ok_require_keys : FnOk P w K mg base CX0 2 _ fd_require_keys ps_require_keys (liftC K (C_require_keys (clK K))) := ok_require_keys B G_is_integer F_require_keys
  have ok_Sorting_join_at : FnOk P w K mg base CX0 1 _ fd_Sorting_join_at ps_Sorting_join_at (liftC K (C_Sorting_join_at (clK K))) := ok_Sorting_join_at F_Sorting_join_at
  have ok_place_all : FnOk P w K mg base CX0 1 _ fd_place_all ps_place_all (liftC K (C_place_all (clK K))) := ok_place_all F_place_all
  have ok_least_of : FnOk P w K mg base CX0 1 _ fd_least_of ps_least_of (liftC K (C_least_of (clK K))) := ok_least_of B  F_least_of
  have ok_Honest_less : FnOk P w K mg base CX0 1 _ fd_Honest_less ps_Honest_less (liftC K (C_Honest_less (clK K))) := ok_Honest_less B  F_Honest_less
  have G_Honest_less : Mtd P w K mg base (clK K).Honest "less" [] (C_Honest_less (clK K)) 1 := ⟨B.c_Honest, by decide +kernel, _, fd_Honest_less, ps_Honest_less, [], [], He.meth_ok (c.t.d.fact 10 (f := .meth "Honest" "less") rfl), F_Honest_less.bindsN fun _ _ _ _ _ _ us hl => match us, hl with | [_, _, _], _ => rfl, .nil, fun _ => .nil, ok_Honest_less⟩
  have ok_rising_end : FnOk P w K mg base CX0 2 _ fd_rising_end ps_rising_end (liftC K (C_rising_end (clK K))) := ok_rising_end B G_Honest_less F_rising_end
  have ok_turn_about : FnOk P w K mg base CX0 1 _ fd_turn_about ps_turn_about (liftC K (C_turn_about (clK K))) := ok_turn_about B  F_turn_about
  have G_turn_about : Fnd P w K mg base "turn_about" 3 [] (C_turn_about (clK K)) 1 := ⟨_, fd_turn_about, ps_turn_about, [], [], He.glo_ok X G (c.t.d.fact 61 (f := .glo "turn_about") rfl), F_turn_about.kp, F_turn_about.bindsN fun _ _ _ _ _ _ us hl => match us, hl with | [_, _, _], _ => rfl, .nil, fun _ => .nil, ok_turn_about⟩
  have ok_turn_equal : FnOk P w K mg base CX0 2 _ fd_turn_equal ps_turn_equal (liftC K (C_turn_equal (clK K))) := ok_turn_equal B G_turn_about F_turn_equal
  have G_turn_equal : Fnd P w K mg base "turn_equal" 3 [] (C_turn_equal (clK K)) 2 := ⟨_, fd_turn_equal, ps_turn_equal, [], [], He.glo_ok X G (c.t.d.fact 62 (f := .glo "turn_equal") rfl), F_turn_equal.kp, F_turn_equal.bindsN fun _ _ _ _ _ _ us hl => match us, hl with | [_, _, _], _ => rfl, .nil, fun _ => .nil, ok_turn_equal⟩
  have ok_falling_end : FnOk P w K mg base CX0 3 _ fd_falling_end ps_falling_end (liftC K (C_falling_end (clK K))) := ok_falling_end B G_turn_equal G_Honest_less F_falling_end
  have G_rising_end : Fnd P w K mg base "rising_end" 4 [] (C_rising_end (clK K)) 2 := ⟨_, fd_rising_end, ps_rising_end, [], [], He.glo_ok X G (c.t.d.fact 63 (f := .glo "rising_end") rfl), F_rising_end.kp, F_rising_end.bindsN fun _ _ _ _ _ _ us hl => match us, hl with | [_, _, _, _], _ => rfl, .nil, fun _ => .nil, ok_rising_end⟩
  have G_falling_end : Fnd P w K mg base "falling_end" 4 [] (C_falling_end (clK K)) 3 := ⟨_, fd_falling_end, ps_falling_end, [], [], He.glo_ok X G (c.t.d.fact 64 (f := .glo "falling_end") rfl), F_falling_end.kp, F_falling_end.bindsN fun _ _ _ _ _ _ us hl => match us, hl with | [_, _, _, _], _ => rfl, .nil, fun _ => .nil, ok_falling_end⟩
  have ok_find_run : FnOk P w K mg base CX0 4 _ fd_find_run ps_find_run (liftC K (C_find_run (clK K))) := ok_find_run B G_rising_end G_turn_about G_falling_end G_Honest_less F_find_run
  have ok_Sorting_make_room : FnOk P w K mg base CX0 1 _ fd_Sorting_make_room ps_Sorting_make_room (liftC K (C_Sorting_make_room (clK K))) := ok_Sorting_make_room F_Sorting_make_room
  have G_place_all : Fnd P w K mg base "place_all" 5 [] (C_place_all (clK K)) 1 := ⟨_, fd_place_all, ps_place_all, [], [], He.glo_ok X G (c.t.d.fact 60 (f := .glo "place_all") rfl), F_place_all.kp, F_place_all.bindsN fun _ _ _ _ _ _ us hl => match us, hl with | [_, _, _, _, _], _ => rfl, .nil, fun _ => .nil, ok_place_all⟩
  have G_least_of : Fnd P w K mg base "least_of" 1 [] (C_least_of (clK K)) 1 := ⟨_, fd_least_of, ps_least_of, [], [], He.glo_ok X G (c.t.d.fact 58 (f := .glo "least_of") rfl), F_least_of.kp, F_least_of.bindsN fun _ _ _ _ _ _ us hl => match us, hl with | [_], _ => rfl, .nil, fun _ => .nil, ok_least_of⟩
  have G_find_run : Fnd P w K mg base "find_run" 4 [] (C_find_run (clK K)) 4 := ⟨_, fd_find_run, ps_find_run, [], [], He.glo_ok X G (c.t.d.fact 65 (f := .glo "find_run") rfl), F_find_run.kp, F_find_run.bindsN fun _ _ _ _ _ _ us hl => match us, hl with | [_, _, _, _], _ => rfl, .nil, fun _ => .nil, ok_find_run⟩
  have G_Sorting_make_room : Mtd P w K mg base (clK K).Sorting "make_room" [] (C_Sorting_make_room (clK K)) 1 := ⟨B.c_Sorting, by decide +kernel, _, fd_Sorting_make_room, ps_Sorting_make_room, [], [], He.meth_ok (c.t.d.fact 51 (f := .meth "Sorting" "make_room") rfl), F_Sorting_make_room.bindsN fun _ _ _ _ _ _ us hl => match us, hl with | [_, _], _ => rfl, .nil, fun _ => .nil, ok_Sorting_make_room⟩
  have ok_Sorting_next_piece : FnOk P w K mg base CX0 5 _ fd_Sorting_next_piece ps_Sorting_next_piece (liftC K (C_Sorting_next_piece (clK K))) := ok_Sorting_next_piece B G_place_all G_least_of G_find_run G_Sorting_make_room F_Sorting_next_piece
  have G_Sorting_join_at : Mtd P w K mg base (clK K).Sorting "join_at" [] (C_Sorting_join_at (clK K)) 1 := ⟨B.c_Sorting, by decide +kernel, _, fd_Sorting_join_at, ps_Sorting_join_at, [], [], He.meth_ok (c.t.d.fact 52 (f := .meth "Sorting" "join_at") rfl), F_Sorting_join_at.bindsN fun _ _ _ _ _ _ us hl => match us, hl with | [_, _], _ => rfl, .nil, fun _ => .nil, ok_Sorting_join_at⟩
  have G_Sorting_next_piece : Mtd P w K mg base (clK K).Sorting "next_piece" [] (C_Sorting_next_piece (clK K)) 5 := ⟨B.c_Sorting, by decide +kernel, _, fd_Sorting_next_piece, ps_Sorting_next_piece, [], [], He.meth_ok (c.t.d.fact 50 (f := .meth "Sorting" "next_piece") rfl), F_Sorting_next_piece.bindsN fun _ _ _ _ _ _ us hl => match us, hl with | [_, _], _ => rfl, .nil, fun _ => .nil, ok_Sorting_next_piece⟩
  have ok_Sorting_go : FnOk P w K mg base CX0 6 _ fd_Sorting_go ps_Sorting_go (liftC K (C_Sorting_go (clK K))) := ok_Sorting_go B G_Sorting_join_at G_Sorting_next_piece F_Sorting_go
  have ok_Joiner___init__ : FnOk P w K mg base CX0 1 _ fd_Joiner___init__ ps_Joiner___init__ (liftC K (C_Joiner___init__ (clK K))) := ok_Joiner___init__ B  F_Joiner___init__
  have G_Joiner : Mkd P w K mg base "Joiner" (clK K).Joiner [.int 7] (C_Joiner___init__ (clK K)) 1 := by
    obtain ⟨ds, r, b⟩ := F_Joiner___init__.binds1 (ps := ps_Joiner___init__) 2 0 (List.cons_ne_nil _ _) rfl fun T kV doc pm an cdv ct us its l1 l2 => match us, its, l1, l2 with | [_, _], [_], _, _ => ⟨_, rfl, rfl⟩
    exact ⟨_, fd_Joiner___init__, ps_Joiner___init__, ds, _, He.mkr_ok (c.t.d.fact 32 (f := .mkr "Joiner") rfl), He.glo_ok X G (c.t.d.fact 30 (f := .glo "Joiner") rfl), b, r, fun _ => (.cons .int .nil), ok_Joiner___init__⟩
  have ok_Sorting___init__ : FnOk P w K mg base CX0 3 _ fd_Sorting___init__ ps_Sorting___init__ (liftC K (C_Sorting___init__ (clK K))) := ok_Sorting___init__ B G_Joiner F_Sorting___init__
  have ok_Honest___init__ : FnOk P w K mg base CX0 1 _ fd_Honest___init__ ps_Honest___init__ (liftC K (C_Honest___init__ (clK K))) := ok_Honest___init__ B  F_Honest___init__
  have G_require_bool : Fnd P w K mg base "require_bool" 2 [] (C_require_bool (clK K)) 1 := ⟨_, fd_require_bool, ps_require_bool, [], [], He.glo_ok X G (c.t.d.fact 57 (f := .glo "require_bool") rfl), F_require_bool.kp, F_require_bool.bindsN fun _ _ _ _ _ _ us hl => match us, hl with | [_, _], _ => rfl, .nil, fun _ => .nil, ok_require_bool⟩
  have G_require_keys_1 : Fnd P w K mg base "require_keys" 1 [.int 2000] (C_require_keys (clK K)) 2 := by
    obtain ⟨ds, r, b⟩ := F_require_keys.binds1 (ps := ps_require_keys) 1 0 (List.cons_ne_nil _ _) rfl fun T kV doc pm an cdv ct us its l1 l2 => match us, its, l1, l2 with | [_], [_], _, _ => ⟨_, rfl, rfl⟩
    exact ⟨_, fd_require_keys, ps_require_keys, ds, _, He.glo_ok X G (c.t.d.fact 56 (f := .glo "require_keys") rfl), F_require_keys.kp, b, r, fun _ => (.cons .int .nil), ok_require_keys⟩
  have G_Sorting_go : Mtd P w K mg base (clK K).Sorting "go" [] (C_Sorting_go (clK K)) 6 := ⟨B.c_Sorting, by decide +kernel, _, fd_Sorting_go, ps_Sorting_go, [], [], He.meth_ok (c.t.d.fact 49 (f := .meth "Sorting" "go") rfl), F_Sorting_go.bindsN fun _ _ _ _ _ _ us hl => match us, hl with | [_], _ => rfl, .nil, fun _ => .nil, ok_Sorting_go⟩
  have G_Sorting : Mkd P w K mg base "Sorting" (clK K).Sorting [] (C_Sorting___init__ (clK K)) 3 := ⟨_, fd_Sorting___init__, ps_Sorting___init__, [], [], He.mkr_ok (c.t.d.fact 41 (f := .mkr "Sorting") rfl), He.glo_ok X G (c.t.d.fact 39 (f := .glo "Sorting") rfl), F_Sorting___init__.bindsN fun _ _ _ _ _ _ us hl => match us, hl with | [_, _, _, _], _ => rfl, .nil, fun _ => .nil, ok_Sorting___init__⟩
  have G_Honest : Mkd P w K mg base "Honest" (clK K).Honest [] (C_Honest___init__ (clK K)) 1 := ⟨_, fd_Honest___init__, ps_Honest___init__, [], [], He.mkr_ok (c.t.d.fact 7 (f := .mkr "Honest") rfl), He.glo_ok X G (c.t.d.fact 5 (f := .glo "Honest") rfl), F_Honest___init__.bindsN fun _ _ _ _ _ _ us hl => match us, hl with | [_, _], _ => rfl, .nil, fun _ => .nil, ok_Honest___init__⟩
  have ok_sorted_by : FnOk P w K mg base CX0 7 _ fd_sorted_by ps_sorted_by (liftC K (C_sorted_by (clK K))) := ok_sorted_by B G_require_bool G_require_keys_1 G_Sorting_go G_Sorting G_Honest F_sorted_by
  have G_sorted_by : Fnd P w K mg base "sorted_by" 2 [] (C_sorted_by (clK K)) 7 := ⟨_, fd_sorted_by, ps_sorted_by, [], [], He.glo_ok X G (c.t.d.fact 72 (f := .glo "sorted_by") rfl), F_sorted_by.kp, F_sorted_by.bindsN fun _ _ _ _ _ _ us hl => match us, hl with | [_, _], _ => rfl, .nil, fun _ => .nil, ok_sorted_by⟩
  have ok_count_of : FnOk P w K mg base CX0 8 _ fd_count_of ps_count_of (liftC K (C_count_of (clK K))) := ok_count_of B G_sorted_by F_count_of
  have ok__law_draw : FnOk P w K mg base CX0 1 _ fd__law_draw ps__law_draw (liftC K (C__law_draw (clK K))) := ok__law_draw B  F__law_draw
  have G__law_draw : Fnd P w K mg base "_law_draw" 2 [] (C__law_draw (clK K)) 1 := ⟨_, fd__law_draw, ps__law_draw, [], [], He.glo_ok X G (c.t.d.fact 75 (f := .glo "_law_draw") rfl), F__law_draw.kp, F__law_draw.bindsN fun _ _ _ _ _ _ us hl => match us, hl with | [_, _], _ => rfl, .nil, fun _ => .nil, ok__law_draw⟩
  have ok__law_pick : FnOk P w K mg base CX0 2 _ fd__law_pick ps__law_pick (liftC K (C__law_pick (clK K))) := ok__law_pick B G__law_draw F__law_pick
  have G__law_pick : Fnd P w K mg base "_law_pick" 2 [] (C__law_pick (clK K)) 2 := ⟨_, fd__law_pick, ps__law_pick, [], [], He.glo_ok X G (c.t.d.fact 76 (f := .glo "_law_pick") rfl), F__law_pick.kp, F__law_pick.bindsN fun _ _ _ _ _ _ us hl => match us, hl with | [_, _], _ => rfl, .nil, fun _ => .nil, ok__law_pick⟩
  have ok__law_given : FnOk P w K mg base CX0 3 _ fd__law_given ps__law_given (liftC K (C__law_given (clK K))) := ok__law_given B G__law_draw G__law_pick F__law_given
  have ok__law_due : FnOk P w K mg base CX0 1 _ fd__law_due ps__law_due (liftC K (C__law_due (clK K))) := ok__law_due B  F__law_due
  have G_count_of_1 : Fnd P w K mg base "count_of" 1 [.bl false] (C_count_of (clK K)) 8 := by
    obtain ⟨ds, r, b⟩ := F_count_of.binds0 (ps := ps_count_of) 1 (List.cons_ne_nil _ _) rfl fun D doc pm an cdv ct us its l1 l2 => match us, its, l1, l2 with | [_], [_], _, _ => ⟨_, _, _, _, _, _, rfl, rfl, rfl⟩
    exact ⟨_, fd_count_of, ps_count_of, ds, _, He.glo_ok X G (c.t.d.fact 73 (f := .glo "count_of") rfl), F_count_of.kp, b, r, fun _ => (.cons .bl .nil), ok_count_of⟩
  have G__law_given : Fnd P w K mg base "_law_given" 2 [] (C__law_given (clK K)) 3 := ⟨_, fd__law_given, ps__law_given, [], [], He.glo_ok X G (c.t.d.fact 78 (f := .glo "_law_given") rfl), F__law_given.kp, F__law_given.bindsN fun _ _ _ _ _ _ us hl => match us, hl with | [_, _], _ => rfl, .nil, fun _ => .nil, ok__law_given⟩
  have G_count_of_falling : Fnd P w K mg base "count_of_falling" 1 [] (C_count_of_falling (clK K)) 3 := ⟨_, fd_count_of_falling, ps_count_of_falling, [], [], He.glo_ok X G (c.t.d.fact 66 (f := .glo "count_of_falling") rfl), F_count_of_falling.kp, F_count_of_falling.bindsN fun _ _ _ _ _ _ us hl => match us, hl with | [_], _ => rfl, .nil, fun _ => .nil, ok_count_of_falling⟩
  have G_count_of_falling__k0_lengths : Fnk P w K mg base "count_of_falling" 0 ["lengths"] g_count_of_falling__k0_lengths (C_count_of_falling (clK K)) 3 := ⟨_, fd_count_of_falling, ps_count_of_falling, fun us ws => us ++ ws, fun vs zs => vs ++ zs, He.glo_ok X G (c.t.d.fact 66 (f := .glo "count_of_falling") rfl), F_count_of_falling.kp, kbn_plain F_count_of_falling (fun _ _ _ _ _ _ us ws l1 l2 => match us, ws, l1, l2 with | [], [_], _, _ => rfl), fun _ _ _ _ _ r1 r2 l1 l2 => gkw_count_of_falling__k0_lengths r1 r2 l1 l2, ok_count_of_falling⟩
  have G__law_due : Fnd P w K mg base "_law_due" 1 [] (C__law_due (clK K)) 1 := ⟨_, fd__law_due, ps__law_due, [], [], He.glo_ok X G (c.t.d.fact 77 (f := .glo "_law_due") rfl), F__law_due.kp, F__law_due.bindsN fun _ _ _ _ _ _ us hl => match us, hl with | [_], _ => rfl, .nil, fun _ => .nil, ok__law_due⟩
  have ok__law_right : FnOk P w K mg base CX0 9 _ fd__law_right ps__law_right (liftC K (C__law_right (clK K))) := ok__law_right B G_count_of_1 G__law_given G_count_of_falling G_count_of_falling__k0_lengths G__law_due G__law_draw G__law_pick F__law_right
  have ok__law_great_right : FnOk P w K mg base CX0 4 _ fd__law_great_right ps__law_great_right (liftC K (C__law_great_right (clK K))) := ok__law_great_right B G_count_of_falling G__law_due G__law_draw G__law_pick F__law_great_right
  have ok__law_source : FnOk P w K mg base CX0 1 _ fd__law_source ps__law_source (liftC K (C__law_source (clK K))) := ok__law_source B  F__law_source
  have G__law_right : Fnd P w K mg base "_law_right" 1 [] (C__law_right (clK K)) 9 := ⟨_, fd__law_right, ps__law_right, [], [], He.glo_ok X G (c.t.d.fact 79 (f := .glo "_law_right") rfl), F__law_right.kp, F__law_right.bindsN fun _ _ _ _ _ _ us hl => match us, hl with | [_], _ => rfl, .nil, fun _ => .nil, ok__law_right⟩
  have G__law_great_right : Fnd P w K mg base "_law_great_right" 1 [] (C__law_great_right (clK K)) 4 := ⟨_, fd__law_great_right, ps__law_great_right, [], [], He.glo_ok X G (c.t.d.fact 80 (f := .glo "_law_great_right") rfl), F__law_great_right.kp, F__law_great_right.bindsN fun _ _ _ _ _ _ us hl => match us, hl with | [_], _ => rfl, .nil, fun _ => .nil, ok__law_great_right⟩
  have G__law_source : Fnd P w K mg base "_law_source" 1 [] (C__law_source (clK K)) 1 := ⟨_, fd__law_source, ps__law_source, [], [], He.glo_ok X G (c.t.d.fact 74 (f := .glo "_law_source") rfl), F__law_source.kp, F__law_source.bindsN fun _ _ _ _ _ _ us hl => match us, hl with | [_], _ => rfl, .nil, fun _ => .nil, ok__law_source⟩
  have ok_law : FnOk P w K mg base CX0 10 _ fd_law ps_law (liftC K (C_law (clK K))) := ok_law B G_count_of_falling G__law_right G__law_great_right G__law_source F_law
  exact ok_law
end K77
open PySem PySem.W PySem.Calls PyProof.Rows
theorem PySem.Challenge.cw_askedorder_k77_questions_of_falling_stre_holds : PySem.Challenge.rw_askedorder_k77_questions_of_falling_stre.Holds := by
  w_on; o_law
  refine HandSHeadRun.head_any (r := OpenLaw.row PySem.Challenge.rw_askedorder_k77_questions_of_falling_stre) (q := view (OpenLaw.row PySem.Challenge.rw_askedorder_k77_questions_of_falling_stre).prog [51]) (H := K77.hk) (ob := K77.ob) (M := 6000) (loose := K77.loose) (d := HandSHeadRun.topDef (OpenLaw.row PySem.Challenge.rw_askedorder_k77_questions_of_falling_stre).prog 51) (kwd := []) K77.ob_eq
    (by kernel_rfl) (fun s => by kernel_rfl) K77.run (by kernel_rfl) (by kernel_rfl) (by kernel_rfl) (by rfl) (by first | assumption | decide +kernel) (by decide +kernel) ⟨rfl, rfl, rfl, rfl, rfl, by decide +kernel⟩ ?hw ?hc
  case hw => w_witness2
  case hc =>
    refine L2.walk_ofE (l := PySem.Challenge.rw_askedorder_k77_questions_of_falling_stre) (n := 63) (k := 10) (x := "script") (CX := L2.CX0) rfl (by decide) (by kernel_rfl) ⟨rfl, by decide, by decide⟩ ?F (fun _ _ _ _ z => z)
    intro w mg fa h Y G hmg0
    obtain ⟨K, KX, c⟩ := Y
    have hmg : mg ("law" : PySem.Str) = some (.ref fa) := by
      have e : (HandSHeadRun.topDef (OpenLaw.row PySem.Challenge.rw_askedorder_k77_questions_of_falling_stre).prog 51).name = ("law" : PySem.Str) := by kernel_rfl
      rw [← e]
      exact hmg0
    obtain ⟨fd, hb, hF⟩ := K77.facts (P := (PySem.Challenge.rw_askedorder_k77_questions_of_falling_stre).prog) (w := w) KX G hmg c
    exact ⟨K, fd, DL.liftC K (DL.C_law (K77.clK K)), KX, hb, fun H a ns hl hO hS => DL.law_start hO hS fun hq => ⟨_, ns, rfl, rfl, by omega, rfl⟩, hF⟩
