import PyProof.Rows.All
import Wide.All
import OpenK.AllK
import Wide.FinOn
import KE.KStateDown
import Lean
import HandS.Base
import HandS.Call
import HandS.List
import HandS.Comp
import HandS.Ends
import HandS.More
import HandS.Exc
import HandS.ExcOwn
import HandS.TryOnly
import HandS.Text
import HandS.Iter
import HandS.Words
import HandS.WordsExc
import HandS.Defaults
import HandS.Head0
import HandS.Head1
import HandS.Head2
import HandS.HeadEnd
import HandS.HeadHook1
import HandS.HeadHook2
import HandS.Flow
import HandS.Wide
import HandS.WideMore
import HandS.IsInst
import HandS.StrMore
import HandS.FStr
import HandS.Style
import HandS.TupAny
import HandS.Deep
import HandS.RevTup
import HandS.Rev
import KE.KExcSuper
import KE.KSuper
import HandS.ExcField
import PySem.Challenge.RW_asenacted_k14_whole_ratios_names_and_wor
set_option Elab.async false
set_option linter.all false
set_option autoImplicit false
section
set_option maxRecDepth 100000
set_option autoImplicit false
/-! Pi0: values as trees, the small heap, what stands for what. -/
namespace Pi
open PySem PySem.Spec PyProof.Rows L2

/-- a value as a tree: texts by their codes; lst, dct: lists and dicts that nobody changes any more; ref: an object of the small heap; glo: a def or class of the module; ty: a built-in class -/
inductive D where
  | non | bl (b : Bool) | int (i : Int) | str (cs : List Nat) | tup (ds : List D) | lst (ds : List D) | dct (kvs : List (D × D)) | ref (n : Nat) | glo (x : Str) | ty (n : String) | lsq (ds : List D)
/-- an object of the small heap: a list, a dict, an instance (its class by number, its fields by place), a thing that is frozen -/
inductive Ent where
  | lst (ds : List D) | dct (kvs : List (D × D)) | ins (c : Nat) (fs : List D) | fz (d : D)
abbrev Hs := List Ent
abbrev Lv := List (Option D)
/-- what comes of a step: a value; an exception (its class by number, its field); nothing that is told -/
inductive R (α : Type) where
  | ok (a : α) (h : Hs) | exc (c : Nat) (p : Option D) (h : Hs) | bad
def R.bind {α β : Type} : R α → (α → Hs → R β) → R β
  | .ok a h, f => f a h
  | .exc c p h, _ => .exc c p h
  | .bad, _ => .bad
abbrev IE := Lv → Hs → R D
abbrev IT := Lv → Hs → R Bool
abbrev IA := Lv → Hs → R (List D)
/-- what comes of a statement -/
inductive RS where
  | next (e : Lv) (h : Hs) | ret (d : D) (h : Hs) | brk (e : Lv) (h : Hs) | cnt (e : Lv) (h : Hs) | exc (c : Nat) (p : Option D) (e : Lv) (h : Hs) | bad
abbrev IS := Lv → Hs → RS

/-- the classes of the text: a class by its number: its name, its fields' names in order -/
structure Cls1 where
  name : Str
  fields : List Str
structure Cn where
  K : PySem.W.Frag
  mg : Str → Option Value
  cls : List Cls1

/-- what stands for what: the things that never change, the addresses of the small heap's objects -/
structure G where
  F : Hp
  m : List Addr
  /-- what is being made (a comprehension's list) -/
  x : Hp
structure G.le (g g' : G) : Prop where
  f : ∀ a o, g.F a = some o → g'.F a = some o
  m : ∃ r, g'.m = g.m ++ r
  x : g'.x = g.x
/-- the same but for what is being made -/
structure G.lf (g g' : G) : Prop where
  f : ∀ a o, g.F a = some o → g'.F a = some o
  m : ∃ r, g'.m = g.m ++ r
theorem G.le.lf {g g' : G} (l : g.le g') : g.lf g' := ⟨l.f, l.m⟩
theorem G.lf.trans {g1 g2 g3 : G} (a : g1.lf g2) (b : g2.lf g3) : g1.lf g3 := by
  refine ⟨fun x o h => b.f x o (a.f x o h), ?_⟩
  obtain ⟨r, e⟩ := a.m
  obtain ⟨r', e'⟩ := b.m
  exact ⟨r ++ r', by rw [e', e, List.append_assoc]⟩
theorem G.lf.at {g g' : G} (l : g.lf g') {n : Nat} {a : Addr} (h : g.m[n]? = some a) : g'.m[n]? = some a := by
  obtain ⟨r, e⟩ := l.m
  rw [e, List.getElem?_append_left]
  · exact h
  · exact (List.getElem?_eq_some_iff.mp h).1
theorem lf_x (F : Hp) (m : List Addr) (x x' : Hp) : G.lf ⟨F, m, x⟩ ⟨F, m, x'⟩ := ⟨fun _ _ h => h, [], by simp⟩
theorem G.le.refl (g : G) : g.le g := ⟨fun _ _ h => h, ⟨[], by simp⟩, rfl⟩
theorem G.le.trans {g1 g2 g3 : G} (a : g1.le g2) (b : g2.le g3) : g1.le g3 := by
  refine ⟨fun x o h => b.f x o (a.f x o h), ?_, b.x.trans a.x⟩
  obtain ⟨r, e⟩ := a.m
  obtain ⟨r', e'⟩ := b.m
  exact ⟨r ++ r', by rw [e', e, List.append_assoc]⟩
theorem G.le.at {g g' : G} (l : g.le g') {n : Nat} {a : Addr} (h : g.m[n]? = some a) : g'.m[n]? = some a := by
  obtain ⟨r, e⟩ := l.m
  rw [e, List.getElem?_append_left]
  · exact h
  · exact (List.getElem?_eq_some_iff.mp h).1
abbrev sOf (cs : List Nat) : Str := ⟨cs.toArray⟩

mutual
inductive Rep (c : Cn) (g : G) : V → D → Prop
  | non : Rep c g .non .non
  | bl (b : Bool) : Rep c g (.bl b) (.bl b)
  | int (i : Int) : Rep c g (.int i) (.int i)
  | str (cs : List Nat) : Rep c g (.str (sOf cs)) (.str cs)
  | tup {a : Addr} {xs : List V} {ds : List D} : SqT c.K g.F a xs → RepL c g xs ds → Rep c g (.ref a) (.tup ds)
  | lst {a : Addr} {xs : List V} {ds : List D} : g.F a = some (.lst xs) → RepL c g xs ds → Rep c g (.ref a) (.lst ds)
  | ref {n : Nat} {a : Addr} : g.m[n]? = some a → Rep c g (.ref a) (.ref n)
  | glo {x : Str} {a : Addr} : c.mg x = some (.ref a) → Rep c g (.ref a) (.glo x)
  | ty (n : String) : Rep c g (.ty n) (.ty n)
  | lsq {a : Addr} {xs : List V} {ds : List D} : SqL c.K g.F a xs → RepL c g xs ds → Rep c g (.ref a) (.lsq ds)
inductive RepL (c : Cn) (g : G) : List V → List D → Prop
  | nil : RepL c g [] []
  | cons {v : V} {d : D} {vs : List V} {ds : List D} : Rep c g v d → RepL c g vs ds → RepL c g (v :: vs) (d :: ds)
end

theorem SqT.monoF {K : PySem.W.Frag} {F F' : Hp} {a : Addr} {xs : List V} (h : SqT K F a xs) (l : ∀ a o, F a = some o → F' a = some o) : SqT K F' a xs := by
  rcases h with (h | ⟨o, h⟩) | h
  · exact .inl (.inl (l _ _ h))
  · exact .inl (.inr ⟨o, l _ _ h⟩)
  · exact .inr h
theorem SqL.monoF {K : PySem.W.Frag} {F F' : Hp} {a : Addr} {xs : List V} (h : SqL K F a xs) (l : ∀ a o, F a = some o → F' a = some o) : SqL K F' a xs := by
  rcases h with (h | ⟨o, h⟩) | h
  · exact .inl (.inl (l _ _ h))
  · exact .inl (.inr ⟨o, l _ _ h⟩)
  · exact .inr h
mutual
theorem Rep.monoF {c : Cn} {g g' : G} {v : V} {d : D} (r : Rep c g v d) (l : g.lf g') : Rep c g' v d :=
  match r with
  | .non => .non
  | .bl b => .bl b
  | .int i => .int i
  | .str cs => .str cs
  | .tup h r => .tup (SqT.monoF h l.f) (RepL.monoF r l)
  | .lst h r => .lst (l.f _ _ h) (RepL.monoF r l)
  | .ref h => .ref (l.at h)
  | .glo h => .glo h
  | .ty n => .ty n
  | .lsq h r => .lsq (SqL.monoF h l.f) (RepL.monoF r l)
theorem RepL.monoF {c : Cn} {g g' : G} {vs : List V} {ds : List D} (r : RepL c g vs ds) (l : g.lf g') : RepL c g' vs ds :=
  match r with
  | .nil => .nil
  | .cons r rs => .cons (Rep.monoF r l) (RepL.monoF rs l)
end
theorem Rep.mono {c : Cn} {g g' : G} {v : V} {d : D} (r : Rep c g v d) (l : g.le g') : Rep c g' v d := r.monoF l.lf
theorem RepL.mono {c : Cn} {g g' : G} {vs : List V} {ds : List D} (r : RepL c g vs ds) (l : g.le g') : RepL c g' vs ds := r.monoF l.lf
theorem RepL.length {c : Cn} {g : G} : ∀ {vs : List V} {ds : List D}, RepL c g vs ds → vs.length = ds.length
  | _, _, .nil => rfl
  | _, _, .cons _ t => by simp [RepL.length t]
theorem RepL.get {c : Cn} {g : G} : ∀ {vs : List V} {ds : List D} {i : Nat} {d : D}, RepL c g vs ds → ds[i]? = some d → ∃ v, vs[i]? = some v ∧ Rep c g v d
  | _, _, _, _, .nil, e => by simp at e
  | _, _, 0, _, .cons r _, e => by simp at e; subst e; exact ⟨_, rfl, r⟩
  | _, _, i + 1, d, .cons _ t, e => by
    obtain ⟨v, h1, h2⟩ := RepL.get (i := i) (d := d) t (by simpa using e)
    exact ⟨v, by simpa using h1, h2⟩
theorem RepL.append {c : Cn} {g : G} : ∀ {vs ws : List V} {ds es : List D}, RepL c g vs ds → RepL c g ws es → RepL c g (vs ++ ws) (ds ++ es)
  | _, _, _, _, .nil, s => s
  | _, _, _, _, .cons r t, s => .cons r (RepL.append t s)
theorem RepL.take {c : Cn} {g : G} : ∀ {vs : List V} {ds : List D} (n : Nat), RepL c g vs ds → RepL c g (vs.take n) (ds.take n)
  | _, _, 0, _ => by simpa using .nil
  | _, _, _ + 1, .nil => by simpa using .nil
  | _, _, n + 1, .cons r t => by simpa using .cons r (RepL.take n t)
theorem RepL.drop {c : Cn} {g : G} : ∀ {vs : List V} {ds : List D} (n : Nat), RepL c g vs ds → RepL c g (vs.drop n) (ds.drop n)
  | _, _, 0, r => by simpa using r
  | _, _, _ + 1, .nil => by simpa using .nil
  | _, _, n + 1, .cons r t => by simpa using (RepL.drop n t)
theorem RepL.set {c : Cn} {g : G} {v : V} {d : D} (r : Rep c g v d) : ∀ {vs : List V} {ds : List D} (i : Nat), RepL c g vs ds → RepL c g (vs.set i v) (ds.set i d)
  | _, _, _, .nil => by simpa using .nil
  | _, _, 0, .cons _ t => by simpa using .cons r t
  | _, _, i + 1, .cons q t => by simpa using .cons q (RepL.set r i t)
theorem RepL.reverse {c : Cn} {g : G} : ∀ {vs : List V} {ds : List D}, RepL c g vs ds → RepL c g vs.reverse ds.reverse
  | _, _, .nil => by simpa using .nil
  | _, _, .cons r t => by simpa using RepL.append (RepL.reverse t) (.cons r .nil)

/-- an instance's fields: by place, under their class's names -/
def FRep (c : Cn) (g : G) (names : List Str) (vs : List (Str × V)) (ds : List D) : Prop :=
  ∃ xs, RepL c g xs ds ∧ vs = names.zip xs ∧ xs.length ≤ names.length

/-- an object of the small heap, at a -/
inductive EntOk (c : Cn) (g : G) (H : Hp) (a : Addr) : Ent → Prop
  | lst {xs : List V} {ds : List D} : g.F a = none → H a = some (.lst xs) → RepL c g xs ds → EntOk c g H a (.lst ds)
  | ins {k : Nat} {cl : Cls1} {C dx : Addr} {vs : List (Str × V)} {ds : List D} : g.F a = none → c.cls[k]? = some cl → c.mg cl.name = some (.ref C) → H a = some (.ins C dx vs) → FRep c g cl.fields vs ds → EntOk c g H a (.ins k ds)
  | fz {d : D} {o : HO} : g.F a = some o → Rep c g (.ref a) d → EntOk c g H a (.fz d)

structure Rel (c : Cn) (g : G) (H : Hp) (h : Hs) : Prop where
  len : g.m.length = h.length
  nd : g.m.Nodup
  fr : ∀ a o, g.F a = some o → H a = some o
  ent : ∀ (n : Nat) (a : Addr) (e : Ent), g.m[n]? = some a → h[n]? = some e → EntOk c g H a e
  pr : ∀ a o, g.x a = some o → H a = some o ∧ g.F a = none ∧ a ∉ g.m
theorem EntOk.there {c : Cn} {g : G} {H : Hp} {a : Addr} {e : Ent} (x : EntOk c g H a e) (fr : ∀ a o, g.F a = some o → H a = some o) : ∃ o, H a = some o := by
  cases x with
  | lst _ h _ => exact ⟨_, h⟩
  | ins _ _ _ h _ => exact ⟨_, h⟩
  | fz h _ => exact ⟨_, fr _ _ h⟩
theorem Rel.at {c : Cn} {g : G} {H : Hp} {h : Hs} (r : Rel c g H h) {n : Nat} {a : Addr} (e : g.m[n]? = some a) : ∃ x, h[n]? = some x ∧ EntOk c g H a x := by
  have h1 := (List.getElem?_eq_some_iff.mp e).1
  have h2 : n < h.length := r.len ▸ h1
  exact ⟨h[n], by simp [h2], r.ent n a _ e (by simp [h2])⟩
theorem Rel.of {c : Cn} {g : G} {H : Hp} {h : Hs} (r : Rel c g H h) {n : Nat} {x : Ent} (e : h[n]? = some x) : ∃ a, g.m[n]? = some a ∧ EntOk c g H a x := by
  have h1 := (List.getElem?_eq_some_iff.mp e).1
  have h2 : n < g.m.length := r.len ▸ h1
  exact ⟨g.m[n], by simp [h2], r.ent n _ _ (by simp [h2]) e⟩
theorem Rel.notin {c : Cn} {g : G} {H : Hp} {h : Hs} (r : Rel c g H h) {p : Addr} (e : H p = none) : p ∉ g.m ∧ g.F p = none := by
  refine ⟨fun hm => ?_, ?_⟩
  · obtain ⟨n, hn⟩ := List.getElem?_of_mem hm
    obtain ⟨x, _, ok⟩ := r.at hn
    obtain ⟨o, ho⟩ := ok.there r.fr
    rw [e] at ho; cases ho
  · cases q : g.F p with
    | none => rfl
    | some o =>
      have := r.fr p o q
      rw [e] at this; cases this
theorem EntOk.mono {c : Cn} {g g' : G} {H H' : Hp} {a : Addr} {e : Ent} (x : EntOk c g H a e) (l : g.le g') (hF : g.F a = none → g'.F a = none) (hH : ∀ o, H a = some o → g.F a = none → H' a = some o) : EntOk c g' H' a e := by
  cases x with
  | lst f h r => exact .lst (hF f) (hH _ h f) (r.mono l)
  | ins f k m h r =>
    obtain ⟨xs, r1, r2, r3⟩ := r
    exact .ins (hF f) k m (hH _ h f) ⟨xs, r1.mono l, r2, r3⟩
  | fz h r => exact .fz (l.f _ _ h) (r.mono l)
/-- the heap may grow by what nobody here knows of -/
theorem Rel.grow {c : Cn} {g : G} {H H' : Hp} {h : Hs} (r : Rel c g H h) (k : ∀ a o, H a = some o → H' a = some o) : Rel c g H' h :=
  ⟨r.len, r.nd, fun a o e => k a o (r.fr a o e), fun n a e h1 h2 => (r.ent n a e h1 h2).mono (.refl g) (fun f => f) fun o e _ => k a o e, fun a o e => ⟨k a o (r.pr a o e).1, (r.pr a o e).2⟩⟩
theorem le_F {g : G} {p : Addr} {o : HO} (h : g.F p = none) : g.le ⟨upd g.F p o, g.m, g.x⟩ :=
  ⟨fun a u e => by show upd g.F p o a = some u; rw [upd_ne (ne_of_none e h)]; exact e, ⟨[], by simp⟩, rfl⟩
theorem le_m {g : G} {p : Addr} : g.le ⟨g.F, g.m ++ [p], g.x⟩ := ⟨fun _ _ e => e, ⟨[p], rfl⟩, rfl⟩
theorem Rel.notx {c : Cn} {g : G} {H : Hp} {h : Hs} (r : Rel c g H h) {p : Addr} (e : H p = none) {a : Addr} {o : HO} (q : g.x a = some o) : a ≠ p := fun z => by
  have := (r.pr a o q).1
  rw [z, e] at this; cases this
/-- a new thing that never changes -/
theorem Rel.newF {c : Cn} {g : G} {H : Hp} {h : Hs} (r : Rel c g H h) {p : Addr} (e : H p = none) (o : HO) : Rel c ⟨upd g.F p o, g.m, g.x⟩ (upd H p o) h ∧ g.le ⟨upd g.F p o, g.m, g.x⟩ := by
  obtain ⟨n1, n2⟩ := r.notin e
  refine ⟨⟨r.len, r.nd, fun a u q => ?_, fun n a x h1 h2 => ?_, fun a u q => ?_⟩, le_F n2⟩
  · have q' : upd g.F p o a = some u := q
    by_cases hp : a = p
    · subst hp
      rw [upd_same] at q' ⊢
      exact q'
    · rw [upd_ne hp] at q' ⊢
      exact r.fr a u q'
  · have hp : a ≠ p := fun z => n1 (z ▸ List.mem_of_getElem? h1)
    refine (r.ent n a x h1 h2).mono (le_F n2) (fun f => ?_) fun u q _ => ?_
    · show upd g.F p o a = none
      rw [upd_ne hp]; exact f
    · rw [upd_ne hp]; exact q
  · have hp : a ≠ p := r.notx e q
    obtain ⟨k1, k2, k3⟩ := r.pr a u q
    refine ⟨by rw [upd_ne hp]; exact k1, ?_, k3⟩
    show upd g.F p o a = none
    rw [upd_ne hp]; exact k2
/-- a new object of the small heap -/
theorem Rel.newL {c : Cn} {g : G} {H : Hp} {h : Hs} (r : Rel c g H h) {p : Addr} (e : H p = none) {o : HO} {x : Ent} (hx : EntOk c ⟨g.F, g.m ++ [p], g.x⟩ (upd H p o) p x) : Rel c ⟨g.F, g.m ++ [p], g.x⟩ (upd H p o) (h ++ [x]) ∧ g.le ⟨g.F, g.m ++ [p], g.x⟩ := by
  obtain ⟨n1, n2⟩ := r.notin e
  refine ⟨⟨by simp [r.len], ?_, fun a u q => ?_, fun n a y h1 h2 => ?_, fun a u q => ?_⟩, le_m⟩
  · exact List.nodup_append.mpr ⟨r.nd, by simp, fun a ha b hb => by
      have : b = p := by simpa using hb
      subst this
      exact fun z => n1 (z ▸ ha)⟩
  · rw [upd_ne (ne_of_none q n2)]; exact r.fr a u q
  · have h1' : (g.m ++ [p])[n]? = some a := h1
    by_cases hn : n < g.m.length
    · rw [List.getElem?_append_left hn] at h1'
      rw [List.getElem?_append_left (r.len ▸ hn)] at h2
      have hp : a ≠ p := fun z => n1 (z ▸ List.mem_of_getElem? h1')
      exact (r.ent n a y h1' h2).mono le_m (fun f => f) fun u q _ => by rw [upd_ne hp]; exact q
    · have hn' : g.m.length ≤ n := Nat.le_of_not_lt hn
      rw [List.getElem?_append_right hn'] at h1'
      rw [List.getElem?_append_right (r.len ▸ hn')] at h2
      obtain ⟨rfl⟩ : a = p := by
        have := List.mem_of_getElem? h1'
        simpa using this
      obtain ⟨rfl⟩ : y = x := by
        have := List.mem_of_getElem? h2
        simpa using this
      exact hx
  · have hp : a ≠ p := r.notx e q
    obtain ⟨k1, k2, k3⟩ := r.pr a u q
    refine ⟨by rw [upd_ne hp]; exact k1, k2, fun hm => ?_⟩
    rcases List.mem_append.mp hm with hm | hm
    · exact k3 hm
    · exact hp (by simpa using hm)
/-- an object of the small heap is changed -/
theorem Rel.write {c : Cn} {g : G} {H : Hp} {h : Hs} (r : Rel c g H h) {n : Nat} {a : Addr} (e : g.m[n]? = some a) (f : g.F a = none) {o : HO} {x : Ent} (hx : EntOk c g (upd H a o) a x) : Rel c g (upd H a o) (h.set n x) := by
  refine ⟨by simp [r.len], r.nd, fun b u q => ?_, fun k b y h1 h2 => ?_, fun b u q => ?_⟩
  · rw [upd_ne (ne_of_none q f)]; exact r.fr b u q
  · by_cases hk : k = n
    · subst hk
      rw [e] at h1
      cases h1
      have hl : k < h.length := r.len ▸ (List.getElem?_eq_some_iff.mp e).1
      rw [List.getElem?_set_self hl] at h2
      cases h2
      exact hx
    · rw [List.getElem?_set_ne (Ne.symm hk)] at h2
      have hb : b ≠ a := fun z => hk (by
        subst z
        obtain ⟨i1, e1⟩ := List.getElem?_eq_some_iff.mp h1
        obtain ⟨i2, e2⟩ := List.getElem?_eq_some_iff.mp e
        exact (List.getElem_inj r.nd).mp (e1.trans e2.symm))
      exact (r.ent k b y h1 h2).mono (.refl g) (fun f => f) fun u q _ => by rw [upd_ne hb]; exact q
  · obtain ⟨k1, k2, k3⟩ := r.pr b u q
    have hb : b ≠ a := fun z => k3 (z ▸ List.mem_of_getElem? e)
    exact ⟨by rw [upd_ne hb]; exact k1, k2, k3⟩
theorem EntOk.swap {c : Cn} {g g' : G} {H H' : Hp} {a : Addr} {e : Ent} (x : EntOk c g H a e) (l : g.lf g') (hF : g.F a = none → g'.F a = none) (hH : ∀ o, H a = some o → g.F a = none → H' a = some o) : EntOk c g' H' a e := by
  cases x with
  | lst f h r => exact .lst (hF f) (hH _ h f) (r.monoF l)
  | ins f k m h r =>
    obtain ⟨xs, r1, r2, r3⟩ := r
    exact .ins (hF f) k m (hH _ h f) ⟨xs, r1.monoF l, r2, r3⟩
  | fz h r => exact .fz (l.f _ _ h) (r.monoF l)
/-- something is begun that nobody knows of yet -/
theorem Rel.newX {c : Cn} {g : G} {H : Hp} {h : Hs} (r : Rel c g H h) {p : Addr} (e : H p = none) (o : HO) : Rel c ⟨g.F, g.m, upd g.x p o⟩ (upd H p o) h := by
  obtain ⟨n1, n2⟩ := r.notin e
  refine ⟨r.len, r.nd, fun a u q => ?_, fun n a x h1 h2 => ?_, fun a u q => ?_⟩
  · rw [upd_ne (ne_of_none q n2)]; exact r.fr a u q
  · have hp : a ≠ p := fun z => n1 (z ▸ List.mem_of_getElem? h1)
    exact (r.ent n a x h1 h2).swap (lf_x g.F g.m g.x _) (fun f => f) fun u q _ => by rw [upd_ne hp]; exact q
  · by_cases hp : a = p
    · subst hp
      have q' : upd g.x a o a = some u := q
      rw [upd_same] at q'
      cases q'
      exact ⟨upd_same, n2, n1⟩
    · have q' : upd g.x p o a = some u := q
      rw [upd_ne hp] at q'
      obtain ⟨k1, k2, k3⟩ := r.pr a u q'
      exact ⟨by rw [upd_ne hp]; exact k1, k2, k3⟩
/-- it goes on -/
theorem Rel.onX {c : Cn} {g : G} {H : Hp} {h : Hs} (r : Rel c g H h) {p : Addr} {o' : HO} (e : g.x p = some o') (o : HO) : Rel c ⟨g.F, g.m, upd g.x p o⟩ (upd H p o) h := by
  obtain ⟨n0, n2, n1⟩ := r.pr p o' e
  refine ⟨r.len, r.nd, fun a u q => ?_, fun n a x h1 h2 => ?_, fun a u q => ?_⟩
  · rw [upd_ne (ne_of_none q n2)]; exact r.fr a u q
  · have hp : a ≠ p := fun z => n1 (z ▸ List.mem_of_getElem? h1)
    exact (r.ent n a x h1 h2).swap (lf_x g.F g.m g.x _) (fun f => f) fun u q _ => by rw [upd_ne hp]; exact q
  · by_cases hp : a = p
    · subst hp
      have q' : upd g.x a o a = some u := q
      rw [upd_same] at q'
      cases q'
      exact ⟨upd_same, n2, n1⟩
    · have q' : upd g.x p o a = some u := q
      rw [upd_ne hp] at q'
      obtain ⟨k1, k2, k3⟩ := r.pr a u q'
      exact ⟨by rw [upd_ne hp]; exact k1, k2, k3⟩
/-- it is done, and never changes -/
theorem Rel.outF {c : Cn} {F x0 H : Hp} {m : List Addr} {h : Hs} {p : Addr} {o : HO} (r : Rel c ⟨F, m, upd x0 p o⟩ H h) (e : x0 p = none) : Rel c ⟨upd F p o, m, x0⟩ H h ∧ F p = none := by
  obtain ⟨n0, n2, n1⟩ := r.pr p o upd_same
  have n2' : F p = none := n2
  have l : G.lf ⟨F, m, upd x0 p o⟩ ⟨upd F p o, m, x0⟩ := ⟨fun a u q => by
    show upd F p o a = some u
    rw [upd_ne (ne_of_none (show F a = some u from q) n2')]; exact q, [], by simp⟩
  refine ⟨⟨r.len, r.nd, fun a u q => ?_, fun n a x h1 h2 => ?_, fun a u q => ?_⟩, n2'⟩
  · have q' : upd F p o a = some u := q
    by_cases hp : a = p
    · subst hp
      rw [upd_same] at q'
      cases q'
      exact n0
    · rw [upd_ne hp] at q'
      exact r.fr a u q'
  · have hp : a ≠ p := fun z => n1 (z ▸ List.mem_of_getElem? h1)
    refine (r.ent n a x h1 h2).swap l (fun f => ?_) fun u q _ => q
    show upd F p o a = none
    rw [upd_ne hp]; exact f
  · have hp : a ≠ p := ne_of_none q e
    obtain ⟨k1, k2, k3⟩ := r.pr a u (by show upd x0 p o a = some u; rw [upd_ne hp]; exact q)
    refine ⟨k1, ?_, k3⟩
    show upd F p o a = none
    rw [upd_ne hp]; exact k2
/-- it is done, and stands in the small heap -/
theorem Rel.outM {c : Cn} {F x0 H : Hp} {m : List Addr} {h : Hs} {p : Addr} {o : HO} {x : Ent} (r : Rel c ⟨F, m, upd x0 p o⟩ H h) (e : x0 p = none) (hx : EntOk c ⟨F, m ++ [p], x0⟩ H p x) : Rel c ⟨F, m ++ [p], x0⟩ H (h ++ [x]) := by
  obtain ⟨n0, n2, n1⟩ := r.pr p o upd_same
  have l : G.lf ⟨F, m, upd x0 p o⟩ ⟨F, m ++ [p], x0⟩ := ⟨fun a u q => q, [p], rfl⟩
  have hl : m.length = h.length := r.len
  refine ⟨by simp [hl], ?_, fun a u q => r.fr a u q, fun n a y h1 h2 => ?_, fun a u q => ?_⟩
  · exact List.nodup_append.mpr ⟨r.nd, by simp, fun a ha b hb => by
      have : b = p := by simpa using hb
      subst this
      exact fun z => n1 (z ▸ ha)⟩
  · have h1' : (m ++ [p])[n]? = some a := h1
    by_cases hn : n < m.length
    · rw [List.getElem?_append_left hn] at h1'
      rw [List.getElem?_append_left (hl ▸ hn)] at h2
      exact (r.ent n a y h1' h2).swap l (fun f => f) fun u q _ => q
    · have hn' : m.length ≤ n := Nat.le_of_not_lt hn
      rw [List.getElem?_append_right hn'] at h1'
      rw [List.getElem?_append_right (hl ▸ hn')] at h2
      obtain ⟨rfl⟩ : a = p := by
        have := List.mem_of_getElem? h1'
        simpa using this
      obtain ⟨rfl⟩ : y = x := by
        have := List.mem_of_getElem? h2
        simpa using this
      exact hx
  · have hp : a ≠ p := ne_of_none q e
    obtain ⟨k1, k2, k3⟩ := r.pr a u (by show upd x0 p o a = some u; rw [upd_ne hp]; exact q)
    refine ⟨k1, k2, fun hm => ?_⟩
    rcases List.mem_append.mp hm with hm | hm
    · exact k3 hm
    · exact hp (by simpa using hm)
/-- a list of the small heap is frozen -/
theorem Rel.freeze {c : Cn} {g : G} {H : Hp} {h : Hs} (r : Rel c g H h) {n : Nat} {ds : List D} (e : h[n]? = some (.lst ds)) :
    ∃ a g', g.m[n]? = some a ∧ g.le g' ∧ Rel c g' H (h.set n (.fz (.lst ds))) ∧ Rep c g' (.ref a) (.lst ds) := by
  obtain ⟨a, ha, ok⟩ := r.of e
  cases ok with
  | @lst xs ds f hH rl =>
    have le : g.le ⟨upd g.F a (.lst xs), g.m, g.x⟩ := le_F f
    have hF : (upd g.F a (.lst xs)) a = some (.lst xs) := upd_same
    have rp : Rep c ⟨upd g.F a (.lst xs), g.m, g.x⟩ (.ref a) (.lst ds) := .lst hF (rl.mono le)
    refine ⟨a, ⟨upd g.F a (.lst xs), g.m, g.x⟩, ha, le, ⟨by simp [r.len], r.nd, fun b u q => ?_, fun k b y h1 h2 => ?_, fun b u q => ?_⟩, rp⟩
    · have q' : upd g.F a (.lst xs) b = some u := q
      by_cases hb : b = a
      · subst hb
        rw [upd_same] at q'
        cases q'
        exact hH
      · rw [upd_ne hb] at q'
        exact r.fr b u q'
    · by_cases hk : k = n
      · subst hk
        have h1' : g.m[k]? = some b := h1
        rw [ha] at h1'
        cases h1'
        have hl : k < h.length := r.len ▸ (List.getElem?_eq_some_iff.mp ha).1
        rw [List.getElem?_set_self hl] at h2
        cases h2
        exact .fz (o := .lst xs) hF rp
      · rw [List.getElem?_set_ne (Ne.symm hk)] at h2
        have h1' : g.m[k]? = some b := h1
        have hb : b ≠ a := fun z => hk (by
          subst z
          obtain ⟨i1, e1⟩ := List.getElem?_eq_some_iff.mp h1'
          obtain ⟨i2, e2⟩ := List.getElem?_eq_some_iff.mp ha
          exact (List.getElem_inj r.nd).mp (e1.trans e2.symm))
        exact (r.ent k b y h1' h2).mono le (fun f' => by show upd g.F a (.lst xs) b = none; rw [upd_ne hb]; exact f') fun u q _ => q
    · obtain ⟨k1, k2, k3⟩ := r.pr b u q
      have hb : b ≠ a := fun z => k3 (z ▸ List.mem_of_getElem? ha)
      refine ⟨k1, ?_, k3⟩
      show upd g.F a (.lst xs) b = none
      rw [upd_ne hb]; exact k2

/-- the slots -/
structure EnvR (c : Cn) (g : G) (σ : L2.St) (e : Lv) : Prop where
  len : σ.length = e.length
  at_ : ∀ (i : Nat) (d : D), e[i]? = some (some d) → ∃ v, σ[i]? = some (some v) ∧ Rep c g v d
theorem EnvR.mono {c : Cn} {g g' : G} {σ : L2.St} {e : Lv} (r : EnvR c g σ e) (l : g.le g') : EnvR c g' σ e :=
  ⟨r.len, fun i d h => let ⟨v, h1, h2⟩ := r.at_ i d h; ⟨v, h1, h2.mono l⟩⟩
theorem EnvR.monoF {c : Cn} {g g' : G} {σ : L2.St} {e : Lv} (r : EnvR c g σ e) (l : g.lf g') : EnvR c g' σ e :=
  ⟨r.len, fun i d h => let ⟨v, h1, h2⟩ := r.at_ i d h; ⟨v, h1, h2.monoF l⟩⟩
theorem EnvR.set {c : Cn} {g : G} {σ : L2.St} {e : Lv} {v : V} {d : D} (r : EnvR c g σ e) (i : Nat) (q : Rep c g v d) : EnvR c g (σ.set i (some v)) (e.set i (some d)) := by
  refine ⟨by simp [r.len], fun j d' h => ?_⟩
  by_cases hj : j = i
  · subst hj
    have hl : j < e.length := by
      have := (List.getElem?_eq_some_iff.mp h).1
      simpa using this
    rw [List.getElem?_set_self hl] at h
    cases h
    exact ⟨v, by rw [List.getElem?_set_self (r.len ▸ hl)], q⟩
  · rw [List.getElem?_set_ne (Ne.symm hj)] at h ⊢
    exact r.at_ j d' h

/-- an exception: its class's address, its own dict -/
def XRep (c : Cn) (g : G) (H : Hp) (cls : Value) (dx : Option Addr) (k : Nat) (p : Option D) : Prop :=
  ∃ cl C, c.cls[k]? = some cl ∧ c.mg cl.name = some (.ref C) ∧ cls = .ref C ∧
    match p with
    | none => True
    | some d => ∃ f v dd, cl.fields = [f] ∧ dx = some dd ∧ H dd = some (.xd [(f, v)]) ∧ Rep c g v d

/-- what is wanted of a step -/
def Pst (c : Cn) (g : G) (Q : VK) (W : XK) : R D → Prop
  | .ok d h => ∀ g' v H, g.le g' → Rel c g' H h → Rep c g' v d → Q v H
  | .exc k p h => ∀ g' H cls dx, g.le g' → Rel c g' H h → XRep c g' H cls dx k p → W cls dx H
  | .bad => False
def PstT (c : Cn) (g : G) (Q : Bool → Hp → Prop) (W : XK) : R Bool → Prop
  | .ok b h => ∀ g' H, g.le g' → Rel c g' H h → Q b H
  | .exc k p h => ∀ g' H cls dx, g.le g' → Rel c g' H h → XRep c g' H cls dx k p → W cls dx H
  | .bad => False
def PstA (c : Cn) (g : G) (Q : List V → Hp → Prop) (W : XK) : R (List D) → Prop
  | .ok ds h => ∀ g' vs H, g.le g' → Rel c g' H h → RepL c g' vs ds → Q vs H
  | .exc k p h => ∀ g' H cls dx, g.le g' → Rel c g' H h → XRep c g' H cls dx k p → W cls dx H
  | .bad => False
def PstS (c : Cn) (g : G) (D : Ends) (W : WX) : RS → Prop
  | .next e h => ∀ g' σ H, g.le g' → Rel c g' H h → EnvR c g' σ e → D.nx σ H
  | .ret d h => ∀ g' v H, g.le g' → Rel c g' H h → Rep c g' v d → D.rt v H
  | .brk e h => ∀ g' σ H, g.le g' → Rel c g' H h → EnvR c g' σ e → D.bk σ H
  | .cnt e h => ∀ g' σ H, g.le g' → Rel c g' H h → EnvR c g' σ e → D.ct σ H
  | .exc k p e h => ∀ g' σ H cls dx, g.le g' → Rel c g' H h → EnvR c g' σ e → XRep c g' H cls dx k p → W cls dx σ H
  | .bad => False
theorem Pst.le {c : Cn} {g g' : G} {Q : VK} {W : XK} {r : R D} (h : Pst c g Q W r) (l : g.le g') : Pst c g' Q W r := by
  cases r with
  | ok d h' => exact fun g2 v H l2 => h g2 v H (l.trans l2)
  | exc k p h' => exact fun g2 H cls dx l2 => h g2 H cls dx (l.trans l2)
  | bad => exact h
theorem PstT.le {c : Cn} {g g' : G} {Q : Bool → Hp → Prop} {W : XK} {r : R Bool} (h : PstT c g Q W r) (l : g.le g') : PstT c g' Q W r := by
  cases r with
  | ok d h' => exact fun g2 H l2 => h g2 H (l.trans l2)
  | exc k p h' => exact fun g2 H cls dx l2 => h g2 H cls dx (l.trans l2)
  | bad => exact h
theorem PstA.le {c : Cn} {g g' : G} {Q : List V → Hp → Prop} {W : XK} {r : R (List D)} (h : PstA c g Q W r) (l : g.le g') : PstA c g' Q W r := by
  cases r with
  | ok d h' => exact fun g2 v H l2 => h g2 v H (l.trans l2)
  | exc k p h' => exact fun g2 H cls dx l2 => h g2 H cls dx (l.trans l2)
  | bad => exact h
theorem PstS.le {c : Cn} {g g' : G} {D : Ends} {W : WX} {r : RS} (h : PstS c g D W r) (l : g.le g') : PstS c g' D W r := by
  cases r with
  | next e h' => exact fun g2 v H l2 => h g2 v H (l.trans l2)
  | ret d h' => exact fun g2 v H l2 => h g2 v H (l.trans l2)
  | brk e h' => exact fun g2 v H l2 => h g2 v H (l.trans l2)
  | cnt e h' => exact fun g2 v H l2 => h g2 v H (l.trans l2)
  | exc k p e h' => exact fun g2 σ H cls dx l2 => h g2 σ H cls dx (l.trans l2)
  | bad => exact h

/-- the readings -/
def tI (c : Cn) (W : WX) (f : IE) : TE := fun σ H Q => ∃ g e h, Rel c g H h ∧ EnvR c g σ e ∧ Pst c g Q (fun cls dx H => W cls dx σ H) (f e h)
def tT (c : Cn) (W : WX) (f : IT) : TT := fun σ H Q => ∃ g e h, Rel c g H h ∧ EnvR c g σ e ∧ PstT c g Q (fun cls dx H => W cls dx σ H) (f e h)
def tA (c : Cn) (W : WX) (f : IA) : TA := fun σ H Q => ∃ g e h, Rel c g H h ∧ EnvR c g σ e ∧ PstA c g Q (fun cls dx H => W cls dx σ H) (f e h)
def tS (c : Cn) (W : WX) (f : IS) : TS := fun D σ H => ∃ g e h, Rel c g H h ∧ EnvR c g σ e ∧ PstS c g D W (f e h)
end Pi
end
section
set_option maxRecDepth 100000
set_option autoImplicit false
/-! Pi1: expressions. -/
namespace Pi
open PySem PySem.Spec PyProof.Rows L2

abbrev LIM : Nat := 16777216
theorem lim_eq : sizeLine = LIM := sizeLine_eq
def ofO {α : Type} (o : Option α) (h : Hs) : R α := match o with
  | some a => .ok a h
  | none => .bad
/-- a list that stands in the small heap, as a tree -/
def lk (h : Hs) : D → D
  | .ref n => match h[n]? with
    | some (.lst ds) => .lst ds
    | some (.fz d) => d
    | _ => .ref n
  | d => d

/-! ### the context -/
structure Ctx (X : Cx) (c : Cn) (W : WX) (n : Nat) : Prop where
  K : X.K = c.K
  mg : X.mg = c.mg
  tk : Takes X W
  nd : X.N.Nodup
  calm : X.calm = true
  room : Room (2 * n + 1) X.A

section
variable {X : Cx} {c : Cn} {W : WX}

theorem _root_.L2.PE.imp {e : Expr} {t t' : TE} (h : PE X e t) (i : ∀ σ H Q, t' σ H Q → t σ H Q) : PE X e t' := ⟨fun pins s σ H Q I q => h.run pins s σ H Q I (i σ H Q q)⟩
theorem _root_.L2.PT.imp {e : Expr} {t t' : TT} (h : PT X e t) (i : ∀ σ H Q, t' σ H Q → t σ H Q) : PT X e t' := ⟨fun pins s σ H Q I q => h.run pins s σ H Q I (i σ H Q q)⟩
theorem _root_.L2.PW.imp {e : Expr} {t t' : TT} (h : PW X e t) (i : ∀ σ H Q, t' σ H Q → t σ H Q) : PW X e t' := ⟨fun wh pins s σ H Q I q => h.run wh pins s σ H Q I (i σ H Q q)⟩
theorem _root_.L2.PA.imp {es : List Expr} {t t' : TA} (h : PA X es t) (i : ∀ σ H Q, t' σ H Q → t σ H Q) : PA X es t' := ⟨fun p pins s σ H Q I q => h.run p pins s σ H Q I (i σ H Q q)⟩
theorem _root_.L2.PS.imp {st : Stmt} {t t' : TS} (h : PS X st t) (i : ∀ D σ H, t' D σ H → t D σ H) : PS X st t' := ⟨fun pins s σ H D I q => h.run pins s σ H D I (i D σ H q)⟩
theorem _root_.L2.PSs.imp {st : List Stmt} {t t' : TS} (h : PSs X st t) (i : ∀ D σ H, t' D σ H → t D σ H) : PSs X st t' := ⟨fun pins s σ H D I q => h.run pins s σ H D I (i D σ H q)⟩

/-! ### one step behind another -/
section
variable {g : G} {Q : VK} {Wx : XK} {QT : Bool → Hp → Prop} {QA : List V → Hp → Prop}
theorem bind_EE {r : R D} {f : D → Hs → R D} {Q' : VK} (hp : Pst c g Q Wx (r.bind f)) (hQ : ∀ d h g' v H, g.le g' → Rel c g' H h → Rep c g' v d → Pst c g' Q Wx (f d h) → Q' v H) : Pst c g Q' Wx r := by
  cases r with
  | ok d h => exact fun g' v H l R r => hQ d h g' v H l R r (Pst.le hp l)
  | exc k p h => exact hp
  | bad => exact hp
theorem bind_EA {r : R D} {f : D → Hs → R (List D)} {Q' : VK} (hp : PstA c g QA Wx (r.bind f)) (hQ : ∀ d h g' v H, g.le g' → Rel c g' H h → Rep c g' v d → PstA c g' QA Wx (f d h) → Q' v H) : Pst c g Q' Wx r := by
  cases r with
  | ok d h => exact fun g' v H l R r => hQ d h g' v H l R r (PstA.le hp l)
  | exc k p h => exact hp
  | bad => exact hp
theorem bind_ET {r : R D} {f : D → Hs → R Bool} {Q' : VK} (hp : PstT c g QT Wx (r.bind f)) (hQ : ∀ d h g' v H, g.le g' → Rel c g' H h → Rep c g' v d → PstT c g' QT Wx (f d h) → Q' v H) : Pst c g Q' Wx r := by
  cases r with
  | ok d h => exact fun g' v H l R r => hQ d h g' v H l R r (PstT.le hp l)
  | exc k p h => exact hp
  | bad => exact hp
theorem bind_TE {r : R Bool} {f : Bool → Hs → R D} {Q' : Bool → Hp → Prop} (hp : Pst c g Q Wx (r.bind f)) (hQ : ∀ d h g' H, g.le g' → Rel c g' H h → Pst c g' Q Wx (f d h) → Q' d H) : PstT c g Q' Wx r := by
  cases r with
  | ok d h => exact fun g' H l R => hQ d h g' H l R (Pst.le hp l)
  | exc k p h => exact hp
  | bad => exact hp
theorem bind_TT {r : R Bool} {f : Bool → Hs → R Bool} {Q' : Bool → Hp → Prop} (hp : PstT c g QT Wx (r.bind f)) (hQ : ∀ d h g' H, g.le g' → Rel c g' H h → PstT c g' QT Wx (f d h) → Q' d H) : PstT c g Q' Wx r := by
  cases r with
  | ok d h => exact fun g' H l R => hQ d h g' H l R (PstT.le hp l)
  | exc k p h => exact hp
  | bad => exact hp
theorem bind_AE {r : R (List D)} {f : List D → Hs → R D} {Q' : List V → Hp → Prop} (hp : Pst c g Q Wx (r.bind f)) (hQ : ∀ ds h g' vs H, g.le g' → Rel c g' H h → RepL c g' vs ds → Pst c g' Q Wx (f ds h) → Q' vs H) : PstA c g Q' Wx r := by
  cases r with
  | ok d h => exact fun g' v H l R r => hQ d h g' v H l R r (Pst.le hp l)
  | exc k p h => exact hp
  | bad => exact hp
theorem bind_AA {r : R (List D)} {f : List D → Hs → R (List D)} {Q' : List V → Hp → Prop} (hp : PstA c g QA Wx (r.bind f)) (hQ : ∀ ds h g' vs H, g.le g' → Rel c g' H h → RepL c g' vs ds → PstA c g' QA Wx (f ds h) → Q' vs H) : PstA c g Q' Wx r := by
  cases r with
  | ok d h => exact fun g' v H l R r => hQ d h g' v H l R r (PstA.le hp l)
  | exc k p h => exact hp
  | bad => exact hp
theorem Pst.ok {d : D} {h : Hs} {v : V} {H : Hp} (hp : Pst c g Q Wx (.ok d h)) (R : Rel c g H h) (r : Rep c g v d) : Q v H := hp g v H (.refl g) R r
theorem ofO_some {α : Type} {o : Option α} {h : Hs} {a : α} (e : o = some a) : ofO o h = .ok a h := by rw [e]; rfl
theorem Pst.ofO {o : Option D} {h : Hs} (hp : Pst c g Q Wx (ofO o h)) : ∃ d, o = some d ∧ Pst c g Q Wx (.ok d h) := by
  cases o with
  | none => exact hp.elim
  | some d => exact ⟨d, rfl, hp⟩
theorem PstT.ofO {o : Option Bool} {h : Hs} (hp : PstT c g QT Wx (ofO o h)) : ∃ d, o = some d ∧ PstT c g QT Wx (.ok d h) := by
  cases o with
  | none => exact hp.elim
  | some d => exact ⟨d, rfl, hp⟩
end

/-! ### names, constants -/
def cVar (i : Nat) : IE := fun e h => match e[i]? with
  | some (some d) => .ok d h
  | _ => .bad
def cC (d : D) : IE := fun _ h => .ok d h
theorem pi_var (i : Nat) {x : Str} {pos : Pos} (hN : X.N[i]? = some x := by rfl) (hv : Vis X.env.scope x := by first | exact Or.inl rfl | exact Or.inr (Or.inl rfl) | exact Or.inr (Or.inr rfl)) (hd : (x == ("__debug__" : Str)) = false := by decide)
    (hcd : (x == ("__classdict__" : Str)) = false := by decide) : PE X (.Name x pos) (tI c W (cVar i)) := by
  refine (pe_var hN hv hd hcd).imp fun σ H Q ⟨g, e, h, R, E, p⟩ => ?_
  have p' : Pst c g Q _ (match e[i]? with | some (some d) => .ok d h | _ => .bad) := p
  cases q : e[i]? with
  | none => rw [q] at p'; exact p'.elim
  | some o =>
    cases o with
    | none => rw [q] at p'; exact p'.elim
    | some d =>
      rw [q] at p'
      obtain ⟨v, hv, r⟩ := E.at_ i d q
      exact ⟨v, hv, p'.ok R r⟩
theorem tI_C {d : D} {v : V} (hr : ∀ g, Rep c g v d) {σ : L2.St} {H : Hp} {Q : VK} (h : tI c W (cC d) σ H Q) : tC v σ H Q := by
  obtain ⟨g, e, h, R, E, p⟩ := h
  exact Pst.ok (d := d) (h := h) p R (hr g)
theorem pi_int {i : Int} {j : Nat} {pos : Pos} : PE X (.Constant (.int i) j pos) (tI c W (cC (.int i))) := pe_int.imp fun _ _ _ h => tI_C (fun _ => .int i) h
theorem pi_bl {b : Bool} {j : Nat} {pos : Pos} : PE X (.Constant (.bool b) j pos) (tI c W (cC (.bl b))) := pe_bl.imp fun _ _ _ h => tI_C (fun _ => .bl b) h
theorem pi_non {j : Nat} {pos : Pos} : PE X (.Constant .none j pos) (tI c W (cC .non)) := pe_non.imp fun _ _ _ h => tI_C (fun _ => .non) h
theorem rep_strOf {g : G} {m : String} {cs : List Nat} (hm : Str.ofString m = sOf cs) : Rep c g (.str (Str.ofString m)) (.str cs) := by rw [hm]; exact .str cs
theorem pi_str {m : String} {cs : List Nat} {j : Nat} {pos : Pos} (hm : Str.ofString m = sOf cs := by decide +kernel) : PE X (.Constant (.str m) j pos) (tI c W (cC (.str cs))) := pe_str.imp fun _ _ _ h => tI_C (fun _ => rep_strOf hm) h
/-- a module's name -/
def Glo (c : Cn) (x : Str) (d : D) : Prop := ∃ u v, c.mg x = some u ∧ RelV v u ∧ ∀ g, Rep c g v d
theorem pi_glob {x : Str} {pos : Pos} {d : D} (hm : X.mg = c.mg) (k : Glo c x d) (hg : Gl X x := by rfl) (hd : (x == ("__debug__" : Str)) = false := by decide) : PE X (.Name x pos) (tI c W (cC d)) := by
  obtain ⟨u, v, e, r, hr⟩ := k
  exact (pe_glob hg (by rw [hm]; exact e) r hd).imp fun _ _ _ h => tI_C hr h
theorem pi_type {x : Str} {n : String} {pos : Pos} (hm : X.mg = c.mg) (k : c.mg x = none) (hv : bootBuiltins x = some (.type n) := by decide +kernel) (hg : Gl X x := by rfl) (hn : x ≠ "__name__" := by decide) (hd : (x == ("__debug__" : Str)) = false := by decide) :
    PE X (.Name x pos) (tI c W (cC (.ty n))) := (pe_bltn (v := .ty n) hg (by rw [hm]; exact k) hv rfl hn hd).imp fun _ _ _ h => tI_C (fun _ => .ty n) h

/-! ### operators by values -/
def Op2 (X : Cx) (c : Cn) (f : Value → Value → Sem Value) (op : Hs → D → D → Option D) : Prop :=
  ∀ (g : G) (H : Hp) (h : Hs) (x y : V) (d e z : D) (Q : VK), Rel c g H h → Rep c g x d → Rep c g y e → op h d e = some z → (∀ g' v H', g.le g' → Rel c g' H' h → Rep c g' v z → Q v H') →
    ∀ (pins : List (Addr × Obj)) (s : Shared) (σ : L2.St) (v u : Value), Inv X pins σ H s → RelV x v → RelV y u → wpAny (model X.prog X.w) X.A (f v u) (EP X pins σ Q) X.xe s
theorem Op2.of {f : Value → Value → Sem Value} {r : R2} {op : Hs → D → D → Option D} (ho : OpR X f r)
    (i : ∀ (g : G) (H : Hp) (h : Hs) (x y : V) (d e z : D) (Q : VK), Rel c g H h → Rep c g x d → Rep c g y e → op h d e = some z → (∀ g' v H', g.le g' → Rel c g' H' h → Rep c g' v z → Q v H') → r x y H Q) : Op2 X c f op :=
  fun g H h x y d e z Q R rx ry hz q pins s σ v u I r1 r2 => ho pins s σ H x y v u Q I r1 r2 (i g H h x y d e z Q R rx ry hz q)
def Op1 (X : Cx) (c : Cn) (f : Value → Sem Value) (op : Hs → D → Option D) : Prop :=
  ∀ (g : G) (H : Hp) (h : Hs) (x : V) (d z : D) (Q : VK), Rel c g H h → Rep c g x d → op h d = some z → (∀ g' v H', g.le g' → Rel c g' H' h → Rep c g' v z → Q v H') →
    ∀ (pins : List (Addr × Obj)) (s : Shared) (σ : L2.St) (v : Value), Inv X pins σ H s → RelV x v → wpAny (model X.prog X.w) X.A (f v) (EP X pins σ Q) X.xe s
theorem Op1.of {f : Value → Sem Value} {r : V → Hp → VK → Prop} {op : Hs → D → Option D} (ho : UnR X f r)
    (i : ∀ (g : G) (H : Hp) (h : Hs) (x : V) (d z : D) (Q : VK), Rel c g H h → Rep c g x d → op h d = some z → (∀ g' v H', g.le g' → Rel c g' H' h → Rep c g' v z → Q v H') → r x H Q) : Op1 X c f op :=
  fun g H h x d z Q R rx hz q pins s σ v I r1 => ho pins s σ H x v Q I r1 (i g H h x d z Q R rx hz q)
def cOp (op : Hs → D → D → Option D) (a b : IE) : IE := fun e h => (a e h).bind fun x h1 => (b e h1).bind fun y h2 => ofO (op h2 x y) h2
def cUn (op : Hs → D → Option D) (a : IE) : IE := fun e h => (a e h).bind fun x h1 => ofO (op h1 x) h1
/-- the reading of an operator over parts that are read -/
def rOp (c : Cn) (op : Hs → D → D → Option D) : R2 := fun x y H Q => ∃ (g : G) (h : Hs) (d e z : D), Rel c g H h ∧ Rep c g x d ∧ Rep c g y e ∧ op h d e = some z ∧ ∀ g' v H', g.le g' → Rel c g' H' h → Rep c g' v z → Q v H'
def rUn (c : Cn) (op : Hs → D → Option D) : V → Hp → VK → Prop := fun x H Q => ∃ (g : G) (h : Hs) (d z : D), Rel c g H h ∧ Rep c g x d ∧ op h d = some z ∧ ∀ g' v H', g.le g' → Rel c g' H' h → Rep c g' v z → Q v H'
theorem Op2.opR {f : Value → Value → Sem Value} {op : Hs → D → D → Option D} (ho : Op2 X c f op) : OpR X f (rOp c op) := by
  rintro pins s σ H x y v u Q I r1 r2 ⟨g, h, d, e, z, R, rx, ry, hz, q⟩
  exact ho g H h x y d e z Q R rx ry hz q pins s σ v u I r1 r2
theorem Op1.unR {f : Value → Sem Value} {op : Hs → D → Option D} (ho : Op1 X c f op) : UnR X f (rUn c op) := by
  rintro pins s σ H x v Q I r1 ⟨g, h, d, z, R, rx, hz, q⟩
  exact ho g H h x d z Q R rx hz q pins s σ v I r1
theorem tI_op {op : Hs → D → D → Option D} {ca cb : IE} {σ : L2.St} {H : Hp} {Q : VK} (h : tI c W (cOp op ca cb) σ H Q) : tOp (rOp c op) (tI c W ca) (tI c W cb) σ H Q := by
  obtain ⟨g, e, h, R, E, p⟩ := h
  refine ⟨g, e, h, R, E, bind_EE (r := ca e h) p fun d h1 g1 v H1 l1 R1 r1 p1 => ?_⟩
  refine ⟨g1, e, h1, R1, E.mono l1, bind_EE (r := cb e h1) p1 fun d2 h2 g2 v2 H2 l2 R2 r2 p2 => ?_⟩
  obtain ⟨z, hz, q⟩ := p2.ofO
  exact ⟨g2, h2, d, d2, z, R2, r1.mono l2, r2, hz, q⟩
theorem tI_un {op : Hs → D → Option D} {ca : IE} {σ : L2.St} {H : Hp} {Q : VK} (h : tI c W (cUn op ca) σ H Q) : tUn (rUn c op) (tI c W ca) σ H Q := by
  obtain ⟨g, e, h, R, E, p⟩ := h
  refine ⟨g, e, h, R, E, bind_EE (r := ca e h) p fun d h1 g1 v H1 l1 R1 r1 p1 => ?_⟩
  obtain ⟨z, hz, q⟩ := p1.ofO
  exact ⟨g1, h1, d, z, R1, r1, hz, q⟩
section
variable {a b : Expr} {ca cb : IE} {pos : Pos}
theorem pi_op {op : Operator} {o : Hs → D → D → Option D} (ho : Op2 X c (binaryOp op) o) (ha : PE X a (tI c W ca)) (hb : PE X b (tI c W cb)) : PE X (.BinOp a op b pos) (tI c W (cOp o ca cb)) :=
  (pe_op ho.opR ha hb).imp fun _ _ _ h => tI_op h
theorem pi_un {op : UnaryOp} {o : Hs → D → Option D} (ho : Op1 X c (unaryOp op) o) (ha : PE X a (tI c W ca)) : PE X (.UnaryOp op a pos) (tI c W (cUn o ca)) :=
  (pe_un ho.unR ha).imp fun _ _ _ h => tI_un h
theorem pi_cmp {op : CmpOp} {o : Hs → D → D → Option D} (ho : Op2 X c (compareOp op) o) (ha : PE X a (tI c W ca)) (hb : PE X b (tI c W cb)) (hm : behindInMarks op b = false := by first | exact nomark _ | rfl | with_unfolding_all rfl) :
    PE X (.Compare a [op] [b] pos) (tI c W (cOp o ca cb)) := (pe_cmpR ho.opR ha hb hm).imp fun _ _ _ h => tI_op h
end

/-! ### truth -/
def tru (h : Hs) (d : D) : Option Bool := match lk h d with
  | .non => some false
  | .bl b => some b
  | .int i => some (i != 0)
  | .str cs => if cs.length ≤ LIM then some (!cs.isEmpty) else none
  | .tup ds => some (!ds.isEmpty)
  | .lst ds => some (!ds.isEmpty)
  | _ => none
/-- an expression that must be a truth (a comparison's value) -/
def tBl (a : IE) : IT := fun e h => (a e h).bind fun d h1 => match d with
  | .bl b => .ok b h1
  | _ => .bad
def tV (a : IE) : IT := fun e h => (a e h).bind fun d h1 => ofO (tru h1 d) h1
def tAndI (a b : IT) : IT := fun e h => (a e h).bind fun x h1 => match x with
  | true => b e h1
  | false => .ok false h1
def tOrI (a b : IT) : IT := fun e h => (a e h).bind fun x h1 => match x with
  | true => .ok true h1
  | false => b e h1
def tNotI (a : IT) : IT := fun e h => (a e h).bind fun x h1 => .ok (!x) h1
/-- a value as it is seen through the small heap -/
def Vw (c : Cn) (g : G) (H : Hp) (v : V) : D → Prop
  | .lst ds => ∃ a xs, v = .ref a ∧ H a = some (.lst xs) ∧ RepL c g xs ds
  | .tup ds => ∃ a xs, v = .ref a ∧ SqT c.K H a xs ∧ RepL c g xs ds
  | d => Rep c g v d
theorem vw_rep {g : G} {H : Hp} {v : V} {d : D} (fr : ∀ a o, g.F a = some o → H a = some o) (r : Rep c g v d) : Vw c g H v d := by
  cases r with
  | tup h r => exact ⟨_, _, rfl, SqT.monoF h fr, r⟩
  | lst h r => exact ⟨_, _, rfl, fr _ _ h, r⟩
  | non => exact .non
  | bl b => exact .bl b
  | int i => exact .int i
  | str cs => exact .str cs
  | ref h => exact .ref h
  | glo h => exact .glo h
  | ty n => exact .ty n
  | lsq h r => exact .lsq h r
theorem lk_vw {g : G} {H : Hp} {h : Hs} {d : D} {v : V} (R : Rel c g H h) (r : Rep c g v d) : Vw c g H v (lk h d) := by
  cases d with
  | ref n =>
    cases r with
    | @ref _ a hn =>
      obtain ⟨x, hx, ok⟩ := R.at hn
      show Vw c g H (.ref a) (match h[n]? with | some (.lst ds) => D.lst ds | some (.fz d) => d | _ => D.ref n)
      rw [hx]
      cases ok with
      | lst f hH rl => exact ⟨_, _, rfl, hH, rl⟩
      | fz hF rp => exact vw_rep R.fr rp
      | ins _ _ _ _ _ => exact Rep.ref hn
  | _ => exact vw_rep R.fr r
theorem lk_list {g : G} {H : Hp} {h : Hs} {d : D} {v : V} {ds : List D} (R : Rel c g H h) (r : Rep c g v d) (e : lk h d = .lst ds) : ∃ a xs, v = .ref a ∧ H a = some (.lst xs) ∧ RepL c g xs ds := by
  have q := lk_vw R r
  rw [e] at q
  exact q
theorem lk_tup {g : G} {H : Hp} {h : Hs} {d : D} {v : V} {ds : List D} (R : Rel c g H h) (r : Rep c g v d) (e : lk h d = .tup ds) : ∃ a xs, v = .ref a ∧ SqT c.K H a xs ∧ RepL c g xs ds := by
  have q := lk_vw R r
  rw [e] at q
  exact q
theorem isEmpty_rep {g : G} {xs : List V} {ds : List D} (r : RepL c g xs ds) : xs.isEmpty = ds.isEmpty := by cases r <;> rfl
theorem len_ne0 (n : Nat) : ((n : Int) != 0) = !(n == 0) := by
  cases n with
  | zero => rfl
  | succ n => simp only [bne, Nat.succ_ne_zero, beq_iff_eq]; rw [show (((n + 1 : Nat) : Int) == 0) = false by simp; omega]; simp
theorem tru_of {g : G} {H : Hp} {h : Hs} {d : D} {v : V} {k : Bool} (R : Rel c g H h) (r : Rep c g v d) (e : tru h d = some k) : TruV c.K v H k := by
  have q := lk_vw R r
  unfold tru at e
  generalize lk h d = z at q e
  cases z with
  | lst ds =>
    cases e
    obtain ⟨a, xs, rfl, hH, rl⟩ := q
    exact .inl ⟨xs, SqL.of hH, by rw [isEmpty_rep rl]⟩
  | tup ds =>
    cases e
    obtain ⟨a, xs, rfl, hH, rl⟩ := q
    exact .inr (.inl ⟨xs, hH, by rw [isEmpty_rep rl]⟩)
  | non => cases (show Rep c g v .non from q); cases e; exact rfl
  | bl b => cases (show Rep c g v (.bl b) from q); cases e; exact rfl
  | int i => cases (show Rep c g v (.int i) from q); cases e; exact rfl
  | str cs =>
    cases (show Rep c g v (.str cs) from q)
    have e' : (if cs.length ≤ LIM then some (!cs.isEmpty) else none) = some k := e
    by_cases hl : cs.length ≤ LIM
    · rw [if_pos hl] at e'
      cases e'
      refine ⟨by rw [lim_eq]; exact hl, ?_⟩
      show (!cs.isEmpty) = (((sOf cs).length : Int) != 0)
      have : (sOf cs).length = cs.length := by show cs.toArray.size = _; simp
      rw [this, len_ne0]
      cases cs <;> rfl
    · rw [if_neg hl] at e'; cases e'
  | _ => cases e
section
variable {a b : Expr} {ca cb : IE} {ta tb : IT} {pos : Pos} {rest : List Expr}
/-- a test that is its value's truth (a name, a call, a field ..) -/
theorem pt_v (hK : X.K = c.K) (ha : PE X a (tI c W ca)) (he : ∀ whole, isTrue a X.env whole = (do let v ← whole; standAt a.pos; holding [v] (truthy v)) := by intro _; rfl) : PT X a (tT c W (tV ca)) := by
  refine (pt_truth ha he).imp fun σ H Q ⟨g, e, h, R, E, p⟩ => ?_
  refine ⟨g, e, h, R, E, bind_ET (r := ca e h) p fun d h1 g1 v H1 l1 R1 r1 p1 => ?_⟩
  obtain ⟨k, hk, p2⟩ := p1.ofO
  exact ⟨k, by rw [hK]; exact tru_of R1 r1 hk, p2 g1 H1 (.refl _) R1⟩
theorem tT_bl {t : TE} {ca : IE} {σ : L2.St} {H : Hp} {Q : Bool → Hp → Prop} (i : ∀ Q, tI c W ca σ H Q → t σ H Q) (h : tT c W (tBl ca) σ H Q) : tTest t σ H Q := by
  obtain ⟨g, e, h, R, E, p⟩ := h
  refine i _ ⟨g, e, h, R, E, bind_ET (r := ca e h) p fun d h1 g1 v H1 l1 R1 r1 p1 => ?_⟩
  cases d with
  | bl k =>
    cases r1
    exact ⟨k, rfl, p1 g1 H1 (.refl _) R1⟩
  | _ => exact p1.elim
/-- a comparison as a test -/
theorem pt_cmp {op : CmpOp} {o : Hs → D → D → Option D} (ho : Op2 X c (compareOp op) o) (ha : PE X a (tI c W ca)) (hb : PE X b (tI c W cb)) (hm : behindInMarks op b = false := by first | exact nomark _ | rfl | with_unfolding_all rfl) :
    PT X (.Compare a [op] [b] pos) (tT c W (tBl (cOp o ca cb))) := (pt_cmpR ho.opR ha hb hm).imp fun σ H Q h => tT_bl (fun Q h => tI_op h) h
theorem tT_and {σ : L2.St} {H : Hp} {Q : Bool → Hp → Prop} (h : tT c W (tAndI ta tb) σ H Q) : tAnd (tT c W ta) (tT c W tb) σ H Q := by
  obtain ⟨g, e, h, R, E, p⟩ := h
  refine ⟨g, e, h, R, E, bind_TT (r := ta e h) p fun b h1 g1 H1 l1 R1 p1 => ?_⟩
  cases b with
  | true => exact ⟨g1, e, h1, R1, E.mono l1, p1⟩
  | false => exact p1 g1 H1 (.refl _) R1
theorem tT_or {σ : L2.St} {H : Hp} {Q : Bool → Hp → Prop} (h : tT c W (tOrI ta tb) σ H Q) : tOr (tT c W ta) (tT c W tb) σ H Q := by
  obtain ⟨g, e, h, R, E, p⟩ := h
  refine ⟨g, e, h, R, E, bind_TT (r := ta e h) p fun b h1 g1 H1 l1 R1 p1 => ?_⟩
  cases b with
  | false => exact ⟨g1, e, h1, R1, E.mono l1, p1⟩
  | true => exact p1 g1 H1 (.refl _) R1
theorem pw_a1 (ha : PT X a (tT c W ta)) : PW X (.BoolOp .And [a] pos) (tT c W ta) := pw_and1 ha
theorem pw_o1 (ha : PT X a (tT c W ta)) : PW X (.BoolOp .Or [a] pos) (tT c W ta) := pw_or1 ha
theorem pw_an (ha : PT X a (tT c W ta)) (hb : PW X (.BoolOp .And (b :: rest) pos) (tT c W tb)) : PW X (.BoolOp .And (a :: b :: rest) pos) (tT c W (tAndI ta tb)) := (pw_and ha hb).imp fun _ _ _ h => tT_and h
theorem pw_on (ha : PT X a (tT c W ta)) (hb : PW X (.BoolOp .Or (b :: rest) pos) (tT c W tb)) : PW X (.BoolOp .Or (a :: b :: rest) pos) (tT c W (tOrI ta tb)) := (pw_or ha hb).imp fun _ _ _ h => tT_or h
theorem pt_n (ha : PT X a (tT c W ta)) : PT X (.UnaryOp .Not a pos) (tT c W (tNotI ta)) := by
  refine (pt_not ha).imp fun σ H Q ⟨g, e, h, R, E, p⟩ => ?_
  refine ⟨g, e, h, R, E, bind_TT (r := ta e h) p fun b h1 g1 H1 l1 R1 p1 => ?_⟩
  exact p1 g1 H1 (.refl _) R1
end
end
end Pi
end
section
set_option maxRecDepth 100000
set_option autoImplicit false
/-! Pi2: more expressions: and, or, arguments, displays, calls, fields, subscripts. -/
namespace Pi
open PySem PySem.Spec PyProof.Rows L2

section
variable {X : Cx} {c : Cn} {W : WX}

/-! ### and, or, not, if as values -/
def cAndV (a b : IE) : IE := fun e h => (a e h).bind fun x h1 => (ofO (tru h1 x) h1).bind fun k h2 => match k with
  | true => b e h2
  | false => .ok x h2
def cOrV (a b : IE) : IE := fun e h => (a e h).bind fun x h1 => (ofO (tru h1 x) h1).bind fun k h2 => match k with
  | true => .ok x h2
  | false => b e h2
def cNotV (a : IE) : IE := fun e h => (a e h).bind fun x h1 => (ofO (tru h1 x) h1).bind fun k h2 => .ok (.bl (!k)) h2
def cIfE (t : IT) (a b : IE) : IE := fun e h => (t e h).bind fun k h1 => match k with
  | true => a e h1
  | false => b e h1
section
variable {a b : Expr} {ca cb : IE} {ta : IT} {pos : Pos} {rest : List Expr}
theorem pi_one {op : BoolOp} (h : PE X a (tI c W ca)) : PE X (.BoolOp op [a] pos) (tI c W ca) := pe_one h
theorem pi_and (hK : X.K = c.K) (ha : PE X a (tI c W ca)) (hb : PE X (.BoolOp .And (b :: rest) pos) (tI c W cb)) : PE X (.BoolOp .And (a :: b :: rest) pos) (tI c W (cAndV ca cb)) := by
  refine (pe_andT ha hb).imp fun σ H Q ⟨g, e, h, R, E, p⟩ => ?_
  refine ⟨g, e, h, R, E, bind_EE (r := ca e h) p fun d h1 g1 v H1 l1 R1 r1 p1 => ?_⟩
  cases q : tru h1 d with
  | none => rw [q] at p1; exact p1.elim
  | some k =>
    refine ⟨k, by rw [hK]; exact tru_of R1 r1 q, ?_⟩
    rw [q] at p1
    cases k with
    | true => rw [if_pos rfl]; exact ⟨g1, e, h1, R1, E.mono l1, p1⟩
    | false => rw [if_neg Bool.false_ne_true]; exact Pst.ok (d := d) (h := h1) p1 R1 r1
theorem pi_or (hK : X.K = c.K) (ha : PE X a (tI c W ca)) (hb : PE X (.BoolOp .Or (b :: rest) pos) (tI c W cb)) : PE X (.BoolOp .Or (a :: b :: rest) pos) (tI c W (cOrV ca cb)) := by
  refine (pe_orT ha hb).imp fun σ H Q ⟨g, e, h, R, E, p⟩ => ?_
  refine ⟨g, e, h, R, E, bind_EE (r := ca e h) p fun d h1 g1 v H1 l1 R1 r1 p1 => ?_⟩
  cases q : tru h1 d with
  | none => rw [q] at p1; exact p1.elim
  | some k =>
    refine ⟨k, by rw [hK]; exact tru_of R1 r1 q, ?_⟩
    rw [q] at p1
    cases k with
    | false => rw [if_neg Bool.false_ne_true]; exact ⟨g1, e, h1, R1, E.mono l1, p1⟩
    | true => rw [if_pos rfl]; exact Pst.ok (d := d) (h := h1) p1 R1 r1
theorem pi_not (hK : X.K = c.K) (ha : PE X a (tI c W ca)) : PE X (.UnaryOp .Not a pos) (tI c W (cNotV ca)) := by
  refine (pe_notT ha).imp fun σ H Q ⟨g, e, h, R, E, p⟩ => ?_
  refine ⟨g, e, h, R, E, bind_EE (r := ca e h) p fun d h1 g1 v H1 l1 R1 r1 p1 => ?_⟩
  cases q : tru h1 d with
  | none => rw [q] at p1; exact p1.elim
  | some k =>
    refine ⟨k, by rw [hK]; exact tru_of R1 r1 q, ?_⟩
    rw [q] at p1
    exact Pst.ok (d := .bl (!k)) (h := h1) p1 R1 (.bl _)
theorem pi_if {t : Expr} (ht : PT X t (tT c W ta)) (ha : PE X a (tI c W ca)) (hb : PE X b (tI c W cb)) : PE X (.IfExp t a b pos) (tI c W (cIfE ta ca cb)) := by
  refine (pe_ifExp ht ha hb).imp fun σ H Q ⟨g, e, h, R, E, p⟩ => ?_
  refine ⟨g, e, h, R, E, bind_TE (r := ta e h) p fun k h1 g1 H1 l1 R1 p1 => ?_⟩
  cases k with
  | true => rw [if_pos rfl]; exact ⟨g1, e, h1, R1, E.mono l1, p1⟩
  | false => rw [if_neg Bool.false_ne_true]; exact ⟨g1, e, h1, R1, E.mono l1, p1⟩
end
/-! ### chains: a op b op' c -/
def cChain (op op' : Hs → D → D → Option D) (a b k : IE) : IE := fun e h => (a e h).bind fun x h1 => (b e h1).bind fun y h2 => (ofO (op h2 x y) h2).bind fun z h3 => match z with
  | .bl true => (k e h3).bind fun w h4 => ofO (op' h4 y w) h4
  | .bl false => .ok (.bl false) h3
  | _ => .bad
theorem tI_chain {op op' : Hs → D → D → Option D} {ca cb ck : IE} {σ : L2.St} {H : Hp} {Q : VK} (h : tI c W (cChain op op' ca cb ck) σ H Q) : tChain (rOp c op) (rOp c op') (tI c W ca) (tI c W cb) (tI c W ck) σ H Q := by
  obtain ⟨g, e, h, R, E, p⟩ := h
  refine ⟨g, e, h, R, E, bind_EE (r := ca e h) p fun d h1 g1 v H1 l1 R1 r1 p1 => ?_⟩
  refine ⟨g1, e, h1, R1, E.mono l1, bind_EE (r := cb e h1) p1 fun d2 h2 g2 v2 H2 l2 R2 r2 p2 => ?_⟩
  cases q : op h2 d d2 with
  | none => rw [q] at p2; exact p2.elim
  | some z =>
    rw [q] at p2
    refine ⟨g2, h2, d, d2, z, R2, r1.mono l2, r2, q, fun g3 v3 H3 l3 R3 r3 => ?_⟩
    cases z with
    | bl k =>
      cases r3
      refine ⟨k, rfl, ?_⟩
      cases k with
      | true =>
        rw [if_pos rfl]
        refine ⟨g3, e, h2, R3, ((E.mono l1).mono l2).mono l3, bind_EE (r := ck e h2) (Pst.le p2 l3) fun d4 h4 g4 v4 H4 l4 R4 r4 p4 => ?_⟩
        obtain ⟨z, hz, q4⟩ := p4.ofO
        exact ⟨g4, h4, d2, d4, z, R4, (r2.mono l3).mono l4, r4, hz, q4⟩
      | false =>
        rw [if_neg Bool.false_ne_true]
        exact p2 g3 _ H3 l3 R3 (.bl _)
    | _ => exact p2.elim
section
variable {a b k : Expr} {ca cb ck : IE} {pos : Pos}
theorem pi_chain {op op' : CmpOp} {o o' : Hs → D → D → Option D} (ho : Op2 X c (compareOp op) o) (ho' : Op2 X c (compareOp op') o') (ha : PE X a (tI c W ca)) (hb : PE X b (tI c W cb)) (hk : PE X k (tI c W ck))
    (hm : lastMarks [op, op'] [b, k] = false := by with_unfolding_all rfl) : PE X (.Compare a [op, op'] [b, k] pos) (tI c W (cChain o o' ca cb ck)) := (pe_chain ho.opR ho'.opR ha hb hk hm).imp fun _ _ _ h => tI_chain h
theorem pt_ch {op op' : CmpOp} {o o' : Hs → D → D → Option D} (ho : Op2 X c (compareOp op) o) (ho' : Op2 X c (compareOp op') o') (ha : PE X a (tI c W ca)) (hb : PE X b (tI c W cb)) (hk : PE X k (tI c W ck))
    (hm : lastMarks [op, op'] [b, k] = false := by with_unfolding_all rfl) : PT X (.Compare a [op, op'] [b, k] pos) (tT c W (tBl (cChain o o' ca cb ck))) := (pt_chain ho.opR ho'.opR ha hb hk hm).imp fun σ H Q h => tT_bl (fun Q h => tI_chain h) h
end

/-! ### arguments, displays -/
def aNil : IA := fun _ h => .ok [] h
def aCons (a : IE) (r : IA) : IA := fun e h => (a e h).bind fun x h1 => (r e h1).bind fun xs h2 => .ok (x :: xs) h2
def cTup (a : IA) : IE := fun e h => (a e h).bind fun ds h1 => if ds.length ≤ LIM then .ok (.tup ds) h1 else .bad
def cLst (a : IA) : IE := fun e h => (a e h).bind fun ds h1 => if ds.length ≤ LIM then .ok (.lst ds) h1 else .bad
/-- a list that will be changed -/
def cLstL (a : IA) : IE := fun e h => (a e h).bind fun ds h1 => if ds.length ≤ LIM then .ok (.ref h1.length) (h1 ++ [.lst ds]) else .bad
/-- what stands in the small heap is changed no more -/
def frz (h : Hs) : D → D × Hs
  | .ref n => match h[n]? with
    | some (.lst ds) => (.lst ds, h.set n (.fz (.lst ds)))
    | some (.fz d) => (d, h)
    | _ => (.ref n, h)
  | d => (d, h)
def cFrz (a : IE) : IE := fun e h => (a e h).bind fun d h1 => .ok (frz h1 d).1 (frz h1 d).2
section
variable {e : Expr} {es : List Expr} {ce : IE} {ca : IA} {pos : Pos}
theorem pa_0 : PA X [] (tA c W aNil) := pa_nil.imp fun σ H Q ⟨g, e, h, R, E, p⟩ => p g [] H (.refl g) R .nil
theorem pa_c (ha : PE X e (tI c W ce)) (hr : PA X es (tA c W ca)) (hs : starEach (e :: es) X.env = (false, eval e X.env) :: starEach es X.env := by rfl) : PA X (e :: es) (tA c W (aCons ce ca)) := by
  refine (pa_cons ha hr hs).imp fun σ H Q ⟨g, e, h, R, E, p⟩ => ?_
  refine ⟨g, e, h, R, E, bind_EA (r := ce e h) p fun d h1 g1 v H1 l1 R1 r1 p1 => ?_⟩
  refine ⟨g1, e, h1, R1, E.mono l1, bind_AA (r := ca e h1) p1 fun ds h2 g2 vs H2 l2 R2 r2 p2 => ?_⟩
  exact p2 g2 _ H2 (.refl _) R2 (.cons (r1.mono l2) r2)
theorem new_tup {g : G} {H : Hp} {h : Hs} {ds : List D} {vs : List V} {Q : VK} {Wx : XK} (R : Rel c g H h) (r : RepL c g vs ds) (p : Pst c g Q Wx (.ok (.tup ds) h)) (a : Addr) (ha : H a = none) : Q (.ref a) (upd H a (.tup vs)) := by
  obtain ⟨R2, l2⟩ := R.newF ha (.tup vs)
  exact p _ _ _ l2 R2 (.tup (SqT.of (show (upd g.F a (.tup vs)) a = some (.tup vs) from upd_same)) (r.mono l2))
theorem new_lst {g : G} {H : Hp} {h : Hs} {ds : List D} {vs : List V} {Q : VK} {Wx : XK} (R : Rel c g H h) (r : RepL c g vs ds) (p : Pst c g Q Wx (.ok (.lst ds) h)) (a : Addr) (ha : H a = none) : Q (.ref a) (upd H a (.lst vs)) := by
  obtain ⟨R2, l2⟩ := R.newF ha (.lst vs)
  exact p _ _ _ l2 R2 (.lst (show (upd g.F a (.lst vs)) a = some (.lst vs) from upd_same) (r.mono l2))
theorem new_lstL {g : G} {H : Hp} {h : Hs} {ds : List D} {vs : List V} {Q : VK} {Wx : XK} (R : Rel c g H h) (r : RepL c g vs ds) (p : Pst c g Q Wx (.ok (.ref h.length) (h ++ [.lst ds]))) (a : Addr) (ha : H a = none) : Q (.ref a) (upd H a (.lst vs)) := by
  obtain ⟨n1, n2⟩ := R.notin ha
  obtain ⟨R2, l2⟩ := R.newL (x := .lst ds) (o := .lst vs) ha (.lst n2 upd_same (r.mono le_m))
  refine p _ _ _ l2 R2 (.ref ?_)
  show (g.m ++ [a])[h.length]? = some a
  rw [← R.len, List.getElem?_append_right (Nat.le_refl _)]
  simp
theorem pi_tup {x1} (ha : PA X es (tA c W ca)) : PE X (.Tuple es x1 pos) (tI c W (cTup ca)) := by
  refine (pe_tup ha).imp fun σ H Q ⟨g, e, h, R, E, p⟩ => ?_
  refine ⟨g, e, h, R, E, bind_AE (r := ca e h) p fun ds h1 g1 vs H1 l1 R1 r1 p1 => ?_⟩
  by_cases hl : ds.length ≤ LIM
  · rw [if_pos hl] at p1
    exact ⟨by rw [r1.length, lim_eq]; exact hl, fun a ha => new_tup R1 r1 p1 a ha⟩
  · rw [if_neg hl] at p1; exact p1.elim
theorem pi_lst (ha : PA X es (tA c W ca)) : PE X (.List es pos) (tI c W (cLst ca)) := by
  refine (pe_lst ha).imp fun σ H Q ⟨g, e, h, R, E, p⟩ => ?_
  refine ⟨g, e, h, R, E, bind_AE (r := ca e h) p fun ds h1 g1 vs H1 l1 R1 r1 p1 => ?_⟩
  by_cases hl : ds.length ≤ LIM
  · rw [if_pos hl] at p1
    exact ⟨by rw [r1.length, lim_eq]; exact hl, fun a ha => new_lst R1 r1 p1 a ha⟩
  · rw [if_neg hl] at p1; exact p1.elim
theorem pi_lstL (ha : PA X es (tA c W ca)) : PE X (.List es pos) (tI c W (cLstL ca)) := by
  refine (pe_lst ha).imp fun σ H Q ⟨g, e, h, R, E, p⟩ => ?_
  refine ⟨g, e, h, R, E, bind_AE (r := ca e h) p fun ds h1 g1 vs H1 l1 R1 r1 p1 => ?_⟩
  by_cases hl : ds.length ≤ LIM
  · rw [if_pos hl] at p1
    exact ⟨by rw [r1.length, lim_eq]; exact hl, fun a ha => new_lstL R1 r1 p1 a ha⟩
  · rw [if_neg hl] at p1; exact p1.elim
/-- freezing: nothing is done -/
theorem frz_ok {g : G} {H : Hp} {h : Hs} {d : D} {v : V} (R : Rel c g H h) (r : Rep c g v d) : ∃ g', g.le g' ∧ Rel c g' H (frz h d).2 ∧ Rep c g' v (frz h d).1 := by
  cases d with
  | ref n =>
    cases r with
    | @ref _ a hn =>
      obtain ⟨x, hx, ok⟩ := R.at hn
      unfold frz
      dsimp only
      cases x with
      | lst ds =>
        obtain ⟨a', g', h1, l, R', r'⟩ := R.freeze hx
        rw [hn] at h1
        cases h1
        rw [hx]
        exact ⟨g', l, R', r'⟩
      | fz d =>
        cases ok with
        | fz hF rp => rw [hx]; exact ⟨g, .refl g, R, rp⟩
      | ins k fs => rw [hx]; exact ⟨g, .refl g, R, .ref hn⟩
      | dct kvs => cases ok
  | _ => exact ⟨g, .refl g, R, r⟩
theorem pi_frz (h : PE X e (tI c W ce)) : PE X e (tI c W (cFrz ce)) := by
  refine h.imp fun σ H Q ⟨g, ev, h, R, E, p⟩ => ⟨g, ev, h, R, E, ?_⟩
  refine bind_EE (r := ce ev h) p fun d h1 g1 v H1 l1 R1 r1 p1 => ?_
  obtain ⟨g2, l2, R2, r2⟩ := frz_ok R1 r1
  exact p1 g2 v H1 l2 R2 r2
end

/-! ### calls of defs -/
/-- a def's promise by its pure function -/
def spI (c : Cn) (fn : List D → Hs → R D) : Sp := fun vs H Q E => ∃ g ds h, Rel c g H h ∧ RepL c g vs ds ∧ Pst c g Q E (fn ds h)
structure Def (P : Program) (w : World) (base : Heap) (c : Cn) (n : Nat) (ad : Addr) (ps : List Str) (fn : List D → Hs → R D) : Prop where
  ex : ∃ fd, FnOk P w c.K c.mg base (L2.CX P w) (2 * n) ad fd ps (spI c fn) ∧ Binds c.K fd ps []
  kp : PySem.W.keepIn c.K (.ref ad) = true
def cCall (fn : List D → Hs → R D) (a : IA) : IE := fun e h => (a e h).bind fun ds h1 => fn ds h1
theorem tI_call {fn : List D → Hs → R D} {ca : IA} {σ : L2.St} {H : Hp} {Q : VK} (h : tI c W (cCall fn ca) σ H Q) : tCallS (spI c fn) (WE W) (tA c W ca) σ H Q := by
  obtain ⟨g, e, h, R, E, p⟩ := h
  exact ⟨g, e, h, R, E, bind_AE (r := ca e h) p fun ds h1 g1 vs H1 l1 R1 r1 p1 => ⟨g1, ds, h1, R1, r1, p1⟩⟩
section
variable {n : Nat} {ad : Addr} {ps : List Str} {fn : List D → Hs → R D} {x m : Str} {p pos apos : Pos} {e o : Expr} {es : List Expr} {ca : IA} {co : IE}
theorem pi_call (cx : Ctx X c W n) (F : Def X.prog X.w X.base c n ad ps fn) (hm : c.mg x = some (.ref ad)) (ha : PA X (e :: es) (tA c W ca)) (hg : Gl X x := by rfl)
    (hdb : (x == ("__debug__" : Str)) = false := by decide) (he : starEach (e :: es) X.env = (false, eval e X.env) :: starEach es X.env := by rfl) (hpl : (backTo pos (starEach es X.env)).any (·.1) = false := by rfl) :
    PE X (.Call (.Name x p) (e :: es) [] pos) (tI c W (cCall fn ca)) := by
  obtain ⟨fd, F1, F2⟩ := F.ex
  rw [← cx.K, ← cx.mg] at F1
  exact (pe_callS F1 (cx.room.mono (Nat.le_succ _)) hg (by rw [cx.mg]; exact hm) (by rw [cx.K]; exact F.kp) (by rw [cx.K]; exact F2) (fun σ => passAt cx.tk σ) ha hdb he hpl).imp fun _ _ _ h => tI_call h
theorem pi_call0 (cx : Ctx X c W n) (F : Def X.prog X.w X.base c n ad ps fn) (hm : c.mg x = some (.ref ad)) (hg : Gl X x := by rfl) (hdb : (x == ("__debug__" : Str)) = false := by decide) :
    PE X (.Call (.Name x p) [] [] pos) (tI c W (cCall fn aNil)) := by
  obtain ⟨fd, F1, F2⟩ := F.ex
  rw [← cx.K, ← cx.mg] at F1
  have hK : PySem.W.keepIn X.K (.ref ad) = true := by rw [cx.K]; exact F.kp
  have hB : Binds X.K fd ps [] := by rw [cx.K]; exact F2
  constructor
  rintro pins s σ H Q I ⟨g, ev, h, R, E, q⟩
  refine wpAny_Call_Name_kw (ld_glob I hg (by rw [cx.mg]; exact hm) ?_ hdb)
  exact PySem.W.callWith_K0 I.kIn hK (run_fnS (E := WE W) F1 (cx.room.mono (Nat.le_succ _)) hB (passAt cx.tk σ) I .nil ⟨g, [], h, R, .nil, q⟩)

/-- o.m(..), o of the k-th class -/
def cMeth (fn : List D → Hs → R D) (k : Nat) (o : IE) (a : IA) : IE := fun e h => (o e h).bind fun d h1 => match d with
  | .ref n => match h1[n]? with
    | some (.ins k' _) => match Nat.beq k' k with
      | true => (a e h1).bind fun ds h2 => fn (.ref n :: ds) h2
      | false => .bad
    | _ => .bad
  | _ => .bad
/-- what is asked of a class and one of its methods -/
structure MethI (c : Cn) (k : Nat) (m : Str) (ad : Addr) : Prop where
  ex : ∃ cl C, c.cls[k]? = some cl ∧ c.mg cl.name = some (.ref C) ∧ L2.Cls c.K C ∧ Meth c.K C m ad ∧ m ∉ cl.fields
theorem lookup_zip_none {m : Str} : ∀ {ns : List Str} {xs : List V}, m ∉ ns → (ns.zip xs).lookup m = none
  | [], _, _ => rfl
  | _ :: _, [], _ => rfl
  | n :: ns, x :: xs, h => by
    rw [List.zip_cons_cons, List.lookup_cons]
    have h1 : (m == n) = false := by
      rw [beq_eq_false_iff_ne]
      exact fun z => h (z ▸ List.mem_cons_self)
    rw [h1]
    exact lookup_zip_none fun z => h (List.mem_cons_of_mem _ z)
theorem rel_ins {g : G} {H : Hp} {h : Hs} {n k : Nat} {fs : List D} {v : V} {cl : Cls1} {C : Addr} (R : Rel c g H h) (r : Rep c g v (.ref n)) (e : h[n]? = some (.ins k fs)) (hc : c.cls[k]? = some cl) (hC : c.mg cl.name = some (.ref C)) :
    ∃ a dx xs, v = .ref a ∧ g.m[n]? = some a ∧ g.F a = none ∧ H a = some (.ins C dx (cl.fields.zip xs)) ∧ RepL c g xs fs ∧ xs.length ≤ cl.fields.length := by
  cases r with
  | @ref _ a hn =>
    have ok := R.ent n a _ hn e
    cases ok with
    | ins f k' m' h' r' =>
      rw [hc] at k'
      cases k'
      rw [hC] at m'
      cases m'
      obtain ⟨xs, r1, rfl, r3⟩ := r'
      exact ⟨a, _, xs, rfl, hn, f, h', r1, r3⟩
theorem pi_meth {k : Nat} {pl : Sem Bool} (cx : Ctx X c W n) (F : Def X.prog X.w X.base c n ad ps fn) (M : MethI c k m ad) (ho : PE X o (tI c W co)) (ha : PA X (e :: es) (tA c W ca))
    (hst : starEach (e :: es) X.env = (false, eval e X.env) :: starEach es X.env := by rfl) (hpl : (backTo pos (starEach es X.env)).any (·.1) = false := by rfl)
    (ht : eval (.Call (.Attribute o m apos) (e :: es) [] pos) X.env = (do
      let ov ← eval o X.env
      standAt apos.atName
      let (f, first) ← holding [ov] (getMethod ov m pl)
      callWith pos f first (backTo pos (starEach (e :: es) X.env)) (backToKw pos (keywordEach [] X.env))) := by rfl) :
    PE X (.Call (.Attribute o m apos) (e :: es) [] pos) (tI c W (cMeth fn k co ca)) := by
  obtain ⟨fd, F1, F2⟩ := F.ex
  rw [← cx.K, ← cx.mg] at F1
  obtain ⟨cl, C, hc, hC, hcl, hm, hf⟩ := M.ex
  rw [← cx.K] at hcl hm F2
  constructor
  rintro pins s σ H Q I ⟨g, ev, h, R, E, q⟩
  refine PySem.W.methodCall_KW (pl := pl) ?_ ht
  refine thn (ho.run pins s σ H _ I ⟨g, ev, h, R, E, bind_EE (Q' := fun x H1 => ∃ a dx fs g1 n h1, x = .ref a ∧ H1 a = some (.ins C dx fs) ∧ fs.lookup m = none ∧ Rel c g1 H1 h1 ∧ EnvR c g1 σ ev ∧ g1.m[n]? = some a ∧ Pst c g1 Q (WE W σ) ((ca ev h1).bind fun ds h2 => fn (.ref n :: ds) h2)) (r := co ev h) q fun d h1 g1 v H1 l1 R1 r1 p1 => ?_⟩) ?_
  · cases d with
    | ref n =>
      cases e1 : h1[n]? with
      | none => dsimp only at p1; rw [e1] at p1; exact p1.elim
      | some y =>
        dsimp only at p1
        rw [e1] at p1
        cases y with
        | ins k' fs =>
          dsimp only at p1
          cases e2 : Nat.beq k' k with
          | false => rw [e2] at p1; exact p1.elim
          | true =>
            rw [e2] at p1
            obtain rfl : k' = k := Nat.eq_of_beq_eq_true e2
            obtain ⟨a, dx, xs, rfl, hn, _, hH, rl, _⟩ := rel_ins R1 r1 e1 hc hC
            exact ⟨a, dx, _, g1, n, h1, rfl, hH, lookup_zip_none hf, R1, E.mono l1, hn, p1⟩
        | _ => exact p1.elim
    | _ => exact p1.elim
  · rintro u s1 ⟨x, H1, I1, rx, a, dx, fs, g1, n, h1, rfl, ea, l, R1, E1, hn, p1⟩
    obtain rfl : u = Value.ref a := rx
    refine getmeth_ok I1 ea hcl hm l ?_
    have hA := ha.run pos pins s1 σ H1 (fun vs H2 => spI c fn (.ref a :: vs) H2 Q (WE W σ)) I1 ⟨g1, ev, h1, R1, E1, bind_AE p1 fun ds h2 g2 vs H2 l2 R2 r2 p2 => ⟨g2, .ref n :: ds, h2, R2, .cons (.ref (l2.at hn)) r2, p2⟩⟩
    refine PySem.W.callWith_K (first := [.ref a]) (h₀ := X.base) I1.ok.mod.kin hm.kp (thn hA fun us s2 hh => ?_) hst hpl
    obtain ⟨vs, H2, I2, r, q2⟩ := hh
    refine ⟨I2.kIn, ?_⟩
    exact run_fnS (us := .ref a :: us) (vs := .ref a :: vs) (E := WE W) F1 (cx.room.mono (Nat.le_succ _)) F2 (passAt cx.tk σ) I2 (.cons rfl r) q2
theorem pi_meth0 {k : Nat} {pl : Sem Bool} (cx : Ctx X c W n) (F : Def X.prog X.w X.base c n ad ps fn) (M : MethI c k m ad) (ho : PE X o (tI c W co))
    (ht : eval (.Call (.Attribute o m apos) [] [] pos) X.env = (do
      let ov ← eval o X.env
      standAt apos.atName
      let (f, first) ← holding [ov] (getMethod ov m pl)
      callWith pos f first (backTo pos (starEach [] X.env)) (backToKw pos (keywordEach [] X.env))) := by rfl) :
    PE X (.Call (.Attribute o m apos) [] [] pos) (tI c W (cMeth fn k co aNil)) := by
  obtain ⟨fd, F1, F2⟩ := F.ex
  rw [← cx.K, ← cx.mg] at F1
  obtain ⟨cl, C, hc, hC, hcl, hm, hf⟩ := M.ex
  rw [← cx.K] at hcl hm F2
  constructor
  rintro pins s σ H Q I ⟨g, ev, h, R, E, q⟩
  refine PySem.W.methodCall_KW (pl := pl) ?_ ht
  refine thn (ho.run pins s σ H _ I ⟨g, ev, h, R, E, bind_EE (Q' := fun x H1 => ∃ a dx fs, x = .ref a ∧ H1 a = some (.ins C dx fs) ∧ fs.lookup m = none ∧ spI c fn [.ref a] H1 Q (WE W σ)) (r := co ev h) q fun d h1 g1 v H1 l1 R1 r1 p1 => ?_⟩) ?_
  · cases d with
    | ref n =>
      cases e1 : h1[n]? with
      | none => dsimp only at p1; rw [e1] at p1; exact p1.elim
      | some y =>
        dsimp only at p1
        rw [e1] at p1
        cases y with
        | ins k' fs =>
          dsimp only at p1
          cases e2 : Nat.beq k' k with
          | false => rw [e2] at p1; exact p1.elim
          | true =>
            rw [e2] at p1
            obtain rfl : k' = k := Nat.eq_of_beq_eq_true e2
            obtain ⟨a, dx, xs, rfl, hn, _, hH, rl, _⟩ := rel_ins R1 r1 e1 hc hC
            exact ⟨a, dx, _, rfl, hH, lookup_zip_none hf, g1, [.ref n], h1, R1, .cons (.ref hn) .nil, p1⟩
        | _ => exact p1.elim
    | _ => exact p1.elim
  · rintro u s1 ⟨x, H1, I1, rx, a, dx, fs, rfl, ea, l, p1⟩
    obtain rfl : u = Value.ref a := rx
    refine getmeth_ok I1 ea hcl hm l ?_
    exact PySem.W.callWith_K0 (first := [.ref a]) I1.kIn hm.kp (run_fnS (us := [.ref a]) (vs := [.ref a]) (E := WE W) F1 (cx.room.mono (Nat.le_succ _)) F2 (passAt cx.tk σ) I1 (.cons rfl .nil) p1)
end
end
end Pi
end
section
set_option maxRecDepth 100000
set_option autoImplicit false
/-! Pi3: instances, fields, subscripts, slices, built-in calls. -/
namespace Pi
open PySem PySem.Spec PyProof.Rows L2

section
variable {X : Cx} {c : Cn} {W : WX}

/-! ### instances -/
def cNew (init : List D → Hs → R D) (k : Nat) (a : IA) : IE := fun e h => (a e h).bind fun ds h1 => (init (.ref h1.length :: ds) (h1 ++ [.ins k []])).bind fun r h2 => match r with
  | .non => .ok (.ref h1.length) h2
  | _ => .bad
/-- what is asked of a class that is made -/
structure MkI (c : Cn) (k : Nat) (x : Str) (ad : Addr) : Prop where
  ex : ∃ cl C, c.cls[k]? = some cl ∧ cl.name = x ∧ c.mg x = some (.ref C) ∧ Mk c.K C ad
theorem new_ins {g : G} {H : Hp} {h : Hs} {k : Nat} {cl : Cls1} {C x dx : Addr} (R : Rel c g H h) (hc : c.cls[k]? = some cl) (hC : c.mg cl.name = some (.ref C)) (hx : H x = none) (hd : H dx = none) (ne : dx ≠ x) :
    Rel c ⟨g.F, g.m ++ [x], g.x⟩ (upd (upd H dx (.own x)) x (.ins C dx [])) (h ++ [.ins k []]) ∧ g.le ⟨g.F, g.m ++ [x], g.x⟩ ∧ Rep c ⟨g.F, g.m ++ [x], g.x⟩ (.ref x) (.ref h.length) := by
  have R1 : Rel c g (upd H dx (.own x)) h := R.grow fun a o e => by rw [upd_ne (ne_of_none e hd)]; exact e
  have hx1 : (upd H dx (.own x)) x = none := by rw [upd_ne (Ne.symm ne)]; exact hx
  obtain ⟨n1, n2⟩ := R1.notin hx1
  obtain ⟨R2, l2⟩ := R1.newL (x := .ins k []) (o := .ins C dx []) hx1 (.ins n2 hc hC upd_same ⟨[], .nil, by simp, by simp⟩)
  refine ⟨R2, l2, .ref ?_⟩
  show (g.m ++ [x])[h.length]? = some x
  rw [← R.len, List.getElem?_append_right (Nat.le_refl _)]
  simp
section
variable {n : Nat} {ad : Addr} {ps : List Str} {fn : List D → Hs → R D} {x : Str} {p pos : Pos} {e : Expr} {es : List Expr} {ca : IA} {k : Nat}
theorem run_new {pins : List (Addr × Obj)} {σ : L2.St} {H : Hp} {s : Shared} {Q : VK} {us : List Value} {vs : List V} {ds : List D} {g : G} {h : Hs} (cx : Ctx X c W n) (F : Def X.prog X.w X.base c n ad ps fn) (M : MkI c k x ad)
    (I : Inv X pins σ H s) (R : Rel c g H h) (r : Vals vs us) (r2 : RepL c g vs ds)
    (p : Pst c g Q (WE W σ) ((fn (.ref h.length :: ds) (h ++ [.ins k []])).bind fun r h2 => match r with
      | .non => .ok (.ref h.length) h2
      | _ => .bad)) : ∃ C, c.mg x = some (.ref C) ∧ PySem.W.keepIn X.K (.ref C) = true ∧ wpAny (model X.prog X.w) X.A (call (.ref C) us) (EP X pins σ Q) X.xe s := by
  obtain ⟨fd, F1, F2⟩ := F.ex
  rw [← cx.K, ← cx.mg] at F1
  obtain ⟨cl, C, hc, hn, hC, hM⟩ := M.ex
  rw [← cx.K] at hM F2
  subst hn
  refine ⟨C, hC, hM.kp, ?_⟩
  obtain ⟨R2, l2, rr⟩ := new_ins (x := s.heap.objs.size + 1) (dx := s.heap.objs.size) R hc hC (I.hok.fresh (Nat.le_succ _)) (I.hok.fresh (Nat.le_refl _)) (Nat.ne_of_lt (Nat.lt_succ_self _))
  have I2 := Inv.made (C := C) I
  have hq : spI c fn (V.ref (s.heap.objs.size + 1) :: vs) (upd (upd H s.heap.objs.size (.own (s.heap.objs.size + 1))) (s.heap.objs.size + 1) (.ins C s.heap.objs.size [])) (fun v H2 => v = .non ∧ Q (.ref (s.heap.objs.size + 1)) H2) (WE W σ) := by
    refine ⟨_, _, _, R2, .cons rr (r2.mono l2), bind_EE (Pst.le p l2) fun d h1 g1 v H1 l1 R1 r1 p1 => ?_⟩
    cases d with
    | non =>
      cases r1
      exact ⟨rfl, p1 g1 _ H1 (.refl _) R1 (rr.mono l1)⟩
    | _ => exact p1.elim
  have r3 : Vals (V.ref (s.heap.objs.size + 1) :: vs) (Value.ref (s.heap.objs.size + 1) :: us) := .cons rfl r
  have hl : (Value.ref (s.heap.objs.size + 1) :: us).length = ps.length := by rw [← r3.length]; exact F1.len _ _ _ _ hq
  have hb := F2 _ (Value.ref (s.heap.objs.size + 1) :: us) I2.kIn (by rw [List.append_nil]; exact hl)
  rw [List.append_nil] at hb
  refine wpAny_call (make_map (f := ad) I.kIn hM.makes hM.init (beq_iff_eq.mp hM.fn) (codeAny_mono (F1.run _ X.stack _ _ ⟨Value.ref (s.heap.objs.size + 1) :: us, []⟩ _ _ _ (WE W σ) (cx.room.make C us [])
    (I2.env0.make C us []) hb r3 hq) fun r s' hq' => ?_))
  cases r with
  | error e => exact passAt cx.tk σ pins _ _ e s' I2 hq'
  | ok fl =>
    cases fl with
    | ret u =>
      obtain ⟨v, H', I3, rv, ev, q3⟩ := I2.after hq'
      subst ev
      exact ⟨rv, ⟨V.ref (s.heap.objs.size + 1), H', I3, rfl, q3⟩⟩
    | next => exact False.elim hq'
    | brk => exact False.elim hq'
    | cont => exact False.elim hq'
theorem pi_new (cx : Ctx X c W n) (F : Def X.prog X.w X.base c n ad ps fn) (M : MkI c k x ad) (ha : PA X (e :: es) (tA c W ca)) (hg : Gl X x := by rfl)
    (hdb : (x == ("__debug__" : Str)) = false := by decide) (he : starEach (e :: es) X.env = (false, eval e X.env) :: starEach es X.env := by rfl) (hpl : (backTo pos (starEach es X.env)).any (·.1) = false := by rfl) :
    PE X (.Call (.Name x p) (e :: es) [] pos) (tI c W (cNew fn k ca)) := by
  obtain ⟨cl, C, hc, hn, hC, hM⟩ := id M.ex
  constructor
  rintro pins s σ H Q I ⟨g, ev, h, R, E, q⟩
  refine wpAny_Call_Name_kw (ld_glob I hg (by rw [cx.mg]; exact hC) ?_ hdb)
  have hA := ha.run pos pins s σ H (fun vs H1 => ∃ g1 ds h1, Rel c g1 H1 h1 ∧ RepL c g1 vs ds ∧ Pst c g1 Q (WE W σ) ((fn (.ref h1.length :: ds) (h1 ++ [.ins k []])).bind fun r h2 => match r with
      | .non => .ok (.ref h1.length) h2
      | _ => .bad)) I ⟨g, ev, h, R, E, bind_AE (r := ca ev h) q fun ds h1 g1 vs H1 l1 R1 r1 p1 => ⟨g1, ds, h1, R1, r1, p1⟩⟩
  have kp : PySem.W.keepIn X.K (.ref C) = true := by rw [cx.K]; exact hM.kp
  refine PySem.W.callWith_K (h₀ := X.base) I.ok.mod.kin kp (thn hA fun us s1 hh => ?_) he hpl
  obtain ⟨vs, H1, I1, r1, g1, ds, h1, R1, r2, p1⟩ := hh
  refine ⟨I1.kIn, ?_⟩
  obtain ⟨C', hC', _, w⟩ := run_new cx F M I1 R1 r1 r2 p1
  rw [hC] at hC'
  cases hC'
  exact w
end

/-! ### fields -/
structure FldI (c : Cn) (k : Nat) (f : Str) (i : Nat) : Prop where
  ex : ∃ cl C, c.cls[k]? = some cl ∧ c.mg cl.name = some (.ref C) ∧ L2.Cls c.K C ∧ NoAttr c.K C f ∧ cl.fields[i]? = some f ∧ cl.fields.Nodup ∧ cl.fields.length < 1000
def insAt (h : Hs) (k : Nat) : D → Option (Nat × List D)
  | .ref n => match h[n]? with
    | some (.ins k' fs) => match Nat.beq k' k with
      | true => some (n, fs)
      | false => none
    | _ => none
  | _ => none
theorem insAt_ok {h : Hs} {k n : Nat} {d : D} {fs : List D} (e : insAt h k d = some (n, fs)) : d = .ref n ∧ h[n]? = some (.ins k fs) := by
  cases d with
  | ref m =>
    unfold insAt at e
    dsimp only at e
    cases q : h[m]? with
    | none => rw [q] at e; cases e
    | some y =>
      rw [q] at e
      cases y with
      | ins k' fs' =>
        dsimp only at e
        cases q2 : Nat.beq k' k with
        | false => rw [q2] at e; cases e
        | true =>
          rw [q2] at e
          cases e
          obtain rfl : k' = k := Nat.eq_of_beq_eq_true q2
          exact ⟨rfl, q⟩
      | _ => cases e
  | _ => cases e
def cFld (k i : Nat) (o : IE) : IE := fun e h => (o e h).bind fun d h1 => match insAt h1 k d with
  | some (_, fs) => match fs[i]? with
    | some v => .ok v h1
    | none => .bad
  | none => .bad
theorem lookup_zip {f : Str} : ∀ {ns : List Str} {xs : List V} {i : Nat} {v : V}, ns.Nodup → ns[i]? = some f → xs[i]? = some v → (ns.zip xs).lookup f = some v
  | [], _, _, _, _, h, _ => by simp at h
  | _ :: _, [], _, _, _, _, h => by simp at h
  | n :: ns, x :: xs, 0, v, _, h1, h2 => by
    simp at h1 h2
    subst h1 h2
    rw [List.zip_cons_cons, List.lookup_cons]
    simp
  | n :: ns, x :: xs, i + 1, v, nd, h1, h2 => by
    rw [List.zip_cons_cons, List.lookup_cons]
    have hf : f ∈ ns := List.mem_of_getElem? (by simpa using h1)
    have hne : (f == n) = false := by
      rw [beq_eq_false_iff_ne]
      rintro rfl
      exact (List.nodup_cons.mp nd).1 hf
    rw [hne]
    exact lookup_zip (i := i) (List.nodup_cons.mp nd).2 (by simpa using h1) (by simpa using h2)
theorem pi_fld {o : Expr} {co : IE} {f : Str} {pos : Pos} {k i : Nat} (hK : X.K = c.K) (F : FldI c k f i) (ho : PE X o (tI c W co)) (hb : attributeBase o f X.env (eval o X.env) = eval o X.env := by rfl) :
    PE X (.Attribute o f pos) (tI c W (cFld k i co)) := by
  obtain ⟨cl, C, hc, hC, hcl, hno, hf, nd, _⟩ := F.ex
  refine (pe_fld ho hb).imp fun σ H Q ⟨g, e, h, R, E, p⟩ => ?_
  refine ⟨g, e, h, R, E, bind_EE (r := co e h) p fun d h1 g1 v H1 l1 R1 r1 p1 => ?_⟩
  cases q : insAt h1 k d with
  | none => rw [q] at p1; exact p1.elim
  | some nf =>
    obtain ⟨n, fs⟩ := nf
    rw [q] at p1
    dsimp only at p1
    obtain ⟨rfl, e1⟩ := insAt_ok q
    obtain ⟨a, dx, xs, rfl, hn, _, hH, rl, hlen⟩ := rel_ins R1 r1 e1 hc hC
    cases q2 : fs[i]? with
    | none => rw [q2] at p1; exact p1.elim
    | some z =>
      rw [q2] at p1
      obtain ⟨x, hx, rx⟩ := rl.get q2
      exact ⟨a, C, dx, _, x, rfl, hH, by rw [hK]; exact hcl, by rw [hK]; exact hno, lookup_zip nd hf hx, Pst.ok (d := z) (h := h1) p1 R1 rx⟩

/-! ### subscripts -/
def atD {α : Type} (xs : List α) (i : Int) : Option α := match i with
  | .ofNat j => xs[j]?
  | .negSucc j => if j < xs.length then xs[xs.length - 1 - j]? else none
theorem atD_atI {α : Type} {xs : List α} {i : Int} {v : α} (h : atD xs i = some v) : atI xs i = some v := by
  cases i with
  | ofNat j => exact atI_nat h
  | negSucc j =>
    have h' : (if j < xs.length then xs[xs.length - 1 - j]? else none) = some v := h
    by_cases hj : j < xs.length
    · rw [if_pos hj] at h'
      unfold atI ixN
      rw [if_neg (by omega), if_pos (by omega)]
      show xs[(Int.negSucc j + (xs.length : Int)).toNat]? = some v
      rw [show (Int.negSucc j + (xs.length : Int)).toNat = xs.length - 1 - j by omega]
      exact h'
    · rw [if_neg hj] at h'; cases h'
theorem atI_map {g : G} {xs : List V} {ds : List D} {i : Int} {d : D} (r : RepL c g xs ds) (h : atD ds i = some d) : ∃ v, atI xs i = some v ∧ Rep c g v d := by
  cases i with
  | ofNat j =>
    obtain ⟨v, h1, h2⟩ := r.get (show ds[j]? = some d from h)
    exact ⟨v, atI_nat h1, h2⟩
  | negSucc j =>
    have h' : (if j < ds.length then ds[ds.length - 1 - j]? else none) = some d := h
    by_cases hj : j < ds.length
    · rw [if_pos hj] at h'
      obtain ⟨v, h1, h2⟩ := r.get h'
      refine ⟨v, atD_atI ?_, h2⟩
      show (if j < xs.length then xs[xs.length - 1 - j]? else none) = some v
      rw [r.length, if_pos hj]
      exact h1
    · rw [if_neg hj] at h'; cases h'
def opIx (h : Hs) (x y : D) : Option D := match y with
  | .int i => match lk h x with
    | .lst ds => atD ds i
    | .lsq ds => atD ds i
    | .tup ds => atD ds i
    | .str cs => if cs.length ≤ LIM then (atD cs i).map fun k => .str [k] else none
    | _ => none
  | _ => none
theorem sOf_len (cs : List Nat) : (sOf cs).length = cs.length := by show cs.toArray.size = _; simp
theorem sOf_toList (cs : List Nat) : (sOf cs).cps.toList = cs := by simp
theorem opIx_r {g : G} {H : Hp} {h : Hs} {x y : V} {d e z : D} {Q : VK} (hK : X.K = c.K) (R : Rel c g H h) (rx : Rep c g x d) (ry : Rep c g y e) (hz : opIx h d e = some z) (q : ∀ g' v H', g.le g' → Rel c g' H' h → Rep c g' v z → Q v H') : rIx X.K x y H Q := by
  unfold opIx at hz
  cases e with
  | int i =>
    cases ry
    have vw := lk_vw R rx
    dsimp only at hz
    generalize lk h d = w at vw hz
    cases w with
    | lst ds =>
      obtain ⟨a, xs, rfl, hH, rl⟩ := vw
      obtain ⟨v, h1, h2⟩ := atI_map rl hz
      exact .inl ⟨a, xs, i, v, rfl, rfl, SqL.of hH, h1, q g v H (.refl _) R h2⟩
    | lsq ds =>
      cases (show Rep c g x (.lsq ds) from vw) with
      | lsq hF rl =>
        obtain ⟨v, h1, h2⟩ := atI_map rl hz
        exact .inl ⟨_, _, i, v, rfl, rfl, by rw [hK]; exact SqL.monoF hF R.fr, h1, q g v H (.refl _) R h2⟩
    | tup ds =>
      obtain ⟨a, xs, rfl, hH, rl⟩ := vw
      obtain ⟨v, h1, h2⟩ := atI_map rl hz
      exact .inr (.inl ⟨a, xs, i, v, rfl, rfl, by rw [hK]; exact hH, h1, q g v H (.refl _) R h2⟩)
    | str cs =>
      cases (show Rep c g x (.str cs) from vw)
      dsimp only at hz
      by_cases hl : cs.length ≤ LIM
      · rw [if_pos hl] at hz
        cases hk : atD cs i with
        | none => rw [hk] at hz; cases hz
        | some k =>
          rw [hk] at hz
          cases hz
          exact .inr (.inr ⟨_, i, k, rfl, rfl, by rw [lim_eq, sOf_len]; exact hl, by rw [sOf_toList]; exact atD_atI hk, q g _ H (.refl _) R (.str [k])⟩)
      · rw [if_neg hl] at hz; cases hz
    | _ => cases hz
  | _ => cases hz
theorem pi_ix {a b : Expr} {ca cb : IE} {pos : Pos} (hK : X.K = c.K) (ha : PE X a (tI c W ca)) (hb : PE X b (tI c W cb)) (hs : PlainIx b := by first | exact fun _ _ => rfl | (intro _ _; rfl)) : PE X (.Subscript a b pos) (tI c W (cOp opIx ca cb)) := by
  refine (pe_ix ix_seq ha hb hs).imp fun σ H Q h => ?_
  obtain ⟨g, e, h, R, E, p⟩ := h
  refine ⟨g, e, h, R, E, bind_EE (r := ca e h) p fun d h1 g1 v H1 l1 R1 r1 p1 => ?_⟩
  refine ⟨g1, e, h1, R1, E.mono l1, bind_EE (r := cb e h1) p1 fun d2 h2 g2 v2 H2 l2 R2 r2 p2 => ?_⟩
  obtain ⟨z, hz, q⟩ := p2.ofO
  exact opIx_r hK R2 (r1.mono l2) r2 hz q

/-! ### slices without a step -/
def cutD {α : Type} (xs : List α) (lo hi : Option Int) : List α := (xs.drop (HT.sIx xs.length 0 lo)).take (HT.sIx xs.length xs.length hi - HT.sIx xs.length 0 lo)
def cIntO (o : Option IE) : Lv → Hs → R (Option Int) := fun e h => match o with
  | none => .ok none h
  | some a => (a e h).bind fun d h1 => match d with
    | .int i => .ok (some i) h1
    | _ => .bad
def opSl (h : Hs) (x : D) (lo hi : Option Int) : Option D := match lk h x with
  | .lst ds => some (.lst (cutD ds lo hi))
  | .str cs => if cs.length ≤ LIM then some (.str (cutD cs lo hi)) else none
  | .tup ds => if HT.sIx ds.length 0 lo = 0 ∧ ds.length ≤ HT.sIx ds.length ds.length hi then none else some (.tup (cutD ds lo hi))
  | _ => none
def cSl (x : IE) (lo hi : Option IE) : IE := fun e h => (x e h).bind fun d h1 => (cIntO lo e h1).bind fun l h2 => (cIntO hi e h2).bind fun u h3 => ofO (opSl h3 d l u) h3
theorem RepL.cut {g : G} {xs : List V} {ds : List D} (r : RepL c g xs ds) (lo hi : Option Int) : RepL c g (cutV xs lo hi) (cutD ds lo hi) := by
  unfold cutV cutD
  rw [r.length]
  exact (r.drop _).take _
end
end Pi
end
section
set_option maxRecDepth 100000
set_option autoImplicit false
/-! Pi4: slices, built-in calls and methods. -/
namespace Pi
open PySem PySem.Spec PyProof.Rows L2

section
variable {X : Cx} {c : Cn} {W : WX}

/-! ### slices -/
/-- a slice's part -/
inductive PPo (X : Cx) (c : Cn) (W : WX) : Option Expr → Option IE → Prop
  | no : PPo X c W none none
  | so {e : Expr} {ce : IE} : PE X e (tI c W ce) → PPo X c W (some e) (some ce)
def tIO (c : Cn) (W : WX) (o : Option IE) : TO := fun σ H Q => ∃ g e h, Rel c g H h ∧ EnvR c g σ e ∧
  (match cIntO o e h with
   | .ok i h' => ∀ g' H', g.le g' → Rel c g' H' h' → Q i H'
   | .exc k p h' => ∀ g' H' cls dx, g.le g' → Rel c g' H' h' → XRep c g' H' cls dx k p → W cls dx σ H'
   | .bad => False)
theorem po_of {e : Option Expr} {o : Option IE} (h : PPo X c W e o) : PO X e (tIO c W o) := by
  cases h with
  | no =>
    refine ⟨fun pins s σ H Q I q => ?_⟩
    obtain ⟨g, ev, h, R, E, p⟩ := q
    exact po_none.run pins s σ H Q I (p g H (.refl _) R)
  | @so e ce he =>
    refine ⟨fun pins s σ H Q I q => ?_⟩
    obtain ⟨g, ev, h, R, E, p⟩ := q
    refine (po_some he).run pins s σ H Q I ⟨g, ev, h, R, E, ?_⟩
    show Pst c g _ _ (ce ev h)
    have p' : (match (ce ev h).bind fun d h1 => (match d with | .int i => Pi.R.ok (some i) h1 | _ => .bad : Pi.R (Option Int)) with
      | .ok i h' => ∀ g' H', g.le g' → Rel c g' H' h' → Q i H'
      | .exc k p h' => ∀ g' H' cls dx, g.le g' → Rel c g' H' h' → XRep c g' H' cls dx k p → W cls dx σ H'
      | .bad => False) := p
    cases q : ce ev h with
    | bad => rw [q] at p'; exact p'
    | exc k pp h' => rw [q] at p'; exact p'
    | ok d h' =>
      rw [q] at p'
      intro g' v H' l R' r'
      cases d with
      | int i =>
        cases r'
        exact ⟨i, rfl, p' g' H' l R'⟩
      | _ => exact p'.elim
theorem cutS_sOf (cs : List Nat) (lo hi : Option Int) : cutS (sOf cs) lo hi = sOf (cutD cs lo hi) := by
  unfold cutS cutD
  rw [sOf_len]
theorem pi_sl {e : Expr} {ce : IE} {lo hi : Option Expr} {cl ch : Option IE} {pos p2 : Pos} (hK : X.K = c.K) (he : PE X e (tI c W ce)) (hl : PPo X c W lo cl) (hh : PPo X c W hi ch) : PE X (.Subscript e (.Slice lo hi none p2) pos) (tI c W (cSl ce cl ch)) := by
  refine (pe_slice (sl_list.or (sl_str.or sl_tup)) he (po_of hl) (po_of hh)).imp fun σ H Q ⟨g, ev, h, R, E, p⟩ => ?_
  refine ⟨g, ev, h, R, E, bind_EE (r := ce ev h) p fun d h1 g1 v H1 l1 R1 r1 p1 => ?_⟩
  refine ⟨g1, ev, h1, R1, E.mono l1, ?_⟩
  cases q1 : cIntO cl ev h1 with
  | bad => rw [q1] at p1; exact p1
  | exc k pp h' => rw [q1] at p1; exact p1
  | ok lo h2 =>
    rw [q1] at p1
    intro g2 H2 l2 R2
    refine ⟨g2, ev, h2, R2, (E.mono l1).mono l2, ?_⟩
    have p2 := Pst.le p1 l2
    dsimp only [Pi.R.bind] at p2
    cases q2 : cIntO ch ev h2 with
    | bad => rw [q2] at p2; exact p2
    | exc k pp h' => rw [q2] at p2; exact p2
    | ok hi h3 =>
      rw [q2] at p2
      intro g3 H3 l3 R3
      obtain ⟨z, hz, p3⟩ := (Pst.le p2 l3).ofO
      have r3 := (r1.mono l2).mono l3
      have vw := lk_vw R3 r3
      unfold opSl at hz
      generalize lk h3 d = w at vw hz
      cases w with
      | lst ds =>
        obtain ⟨a, xs, rfl, hH, rl⟩ := vw
        cases hz
        exact .inl ⟨a, xs, rfl, SqL.of hH, fun p hp => new_lst R3 (rl.cut lo hi) p3 p hp⟩
      | str cs =>
        cases (show Rep c g3 v (.str cs) from vw)
        dsimp only at hz
        by_cases hl : cs.length ≤ LIM
        · rw [if_pos hl] at hz
          cases hz
          exact .inr (.inl ⟨_, rfl, by rw [lim_eq, sOf_len]; exact hl, by rw [cutS_sOf]; exact p3 g3 _ H3 (.refl _) R3 (.str _)⟩)
        · rw [if_neg hl] at hz; cases hz
      | tup ds =>
        obtain ⟨a, xs, rfl, hH, rl⟩ := vw
        dsimp only at hz
        by_cases hw : HT.sIx ds.length 0 lo = 0 ∧ ds.length ≤ HT.sIx ds.length ds.length hi
        · rw [if_pos hw] at hz; cases hz
        · rw [if_neg hw] at hz
          cases hz
          refine .inr (.inr ⟨a, xs, rfl, by rw [hK]; exact hH, ?_, fun p hp => new_tup R3 (rl.cut lo hi) p3 p hp⟩)
          rw [rl.length]
          exact fun z => hw ⟨z.1, Nat.le_of_eq z.2.symm⟩
      | _ => cases hz
/-- xs[::-1] -/
def opRev (h : Hs) (x : D) : Option D := match lk h x with
  | .lst ds => some (.lst ds.reverse)
  | _ => none
theorem pi_rev {e : Expr} {ce : IE} {k : Nat} {p1 p2 p3 pos : Pos} (hK : X.K = c.K) (he : PE X e (tI c W ce)) : PE X (.Subscript e (.Slice none none (some (.UnaryOp .USub (.Constant (.int 1) k p1) p2)) p3) pos) (tI c W (cUn opRev ce)) := by
  refine (pe_revL he).imp fun σ H Q ⟨g, ev, h, R, E, p⟩ => ?_
  refine ⟨g, ev, h, R, E, bind_EE (r := ce ev h) p fun d h1 g1 v H1 l1 R1 r1 p1 => ?_⟩
  obtain ⟨z, hz, p3⟩ := p1.ofO
  have vw := lk_vw R1 r1
  unfold opRev at hz
  generalize lk h1 d = w at vw hz
  cases w with
  | lst ds =>
    obtain ⟨a, xs, rfl, hH, rl⟩ := vw
    cases hz
    exact ⟨a, xs, rfl, SqL.of hH, fun p hp => new_lst R1 rl.reverse p3 p hp⟩
  | _ => cases hz

/-! ### calls of built-ins -/
/-- f(..) by values -/
def FnB (X : Cx) (c : Cn) (f : Value) (op : Hs → List D → Option D) : Prop :=
  ∃ r : List V → Hp → VK → Prop, CallR X f r ∧ ∀ (g : G) (H : Hp) (h : Hs) (xs : List V) (ds : List D) (z : D) (Q : VK), Rel c g H h → RepL c g xs ds → op h ds = some z →
    (∀ g' v H', g.le g' → Rel c g' H' h → Rep c g' v z → Q v H') → r xs H Q
def cB (op : Hs → List D → Option D) (a : IA) : IE := fun e h => (a e h).bind fun ds h1 => ofO (op h1 ds) h1
theorem tI_B {op : Hs → List D → Option D} {ca : IA} {r : List V → Hp → VK → Prop} (i : ∀ (g : G) (H : Hp) (h : Hs) (xs : List V) (ds : List D) (z : D) (Q : VK), Rel c g H h → RepL c g xs ds → op h ds = some z →
    (∀ g' v H', g.le g' → Rel c g' H' h → Rep c g' v z → Q v H') → r xs H Q) {σ : L2.St} {H : Hp} {Q : VK} (h : tI c W (cB op ca) σ H Q) : tCB r (tA c W ca) σ H Q := by
  obtain ⟨g, e, h, R, E, p⟩ := h
  refine ⟨g, e, h, R, E, bind_AE (r := ca e h) p fun ds h1 g1 vs H1 l1 R1 r1 p1 => ?_⟩
  obtain ⟨z, hz, q⟩ := p1.ofO
  exact i g1 H1 h1 vs ds z Q R1 r1 hz q
section
variable {x : Str} {p pos : Pos} {e : Expr} {es : List Expr} {ca : IA} {op : Hs → List D → Option D}
theorem pi_B {id : String} (hm : X.mg = c.mg) (F : FnB X c (.builtin id) op) (k : c.mg x = none) (hv : bootBuiltins x = some (.builtin id)) (ha : PA X (e :: es) (tA c W ca)) (hg : Gl X x := by rfl) (hn : x ≠ "__name__" := by decide)
    (hdb : (x == ("__debug__" : Str)) = false := by decide) (he : starEach (e :: es) X.env = (false, eval e X.env) :: starEach es X.env := by rfl) (hpl : (backTo pos (starEach es X.env)).any (·.1) = false := by rfl) :
    PE X (.Call (.Name x p) (e :: es) [] pos) (tI c W (cB op ca)) := by
  obtain ⟨r, F1, F2⟩ := F
  exact (pe_callB F1 hg (by rw [hm]; exact k) hv ha hn hdb he hpl).imp fun _ _ _ h => tI_B F2 h
theorem pi_T {T : String} (hm : X.mg = c.mg) (F : FnB X c (.type T) op) (k : c.mg x = none) (hv : bootBuiltins x = some (.type T)) (ha : PA X (e :: es) (tA c W ca)) (hg : Gl X x := by rfl) (hn : x ≠ "__name__" := by decide)
    (hdb : (x == ("__debug__" : Str)) = false := by decide) (he : starEach (e :: es) X.env = (false, eval e X.env) :: starEach es X.env := by rfl) (hpl : (backTo pos (starEach es X.env)).any (·.1) = false := by rfl) :
    PE X (.Call (.Name x p) (e :: es) [] pos) (tI c W (cB op ca)) := by
  obtain ⟨r, F1, F2⟩ := F
  exact (pe_callTy F1 hg (by rw [hm]; exact k) hv ha hn hdb he hpl).imp fun _ _ _ h => tI_B F2 h
end
/-! ### the built-ins -/
theorem repL1 {g : G} {xs : List V} {d : D} (r : RepL c g xs [d]) : ∃ v, xs = [v] ∧ Rep c g v d := by
  cases r with
  | cons r1 r2 => cases r2; exact ⟨_, rfl, r1⟩
theorem repL2 {g : G} {xs : List V} {d e : D} (r : RepL c g xs [d, e]) : ∃ v u, xs = [v, u] ∧ Rep c g v d ∧ Rep c g u e := by
  cases r with
  | cons r1 r2 =>
    cases r2 with
    | cons r3 r4 => cases r4; exact ⟨_, _, rfl, r1, r3⟩
def opLen (h : Hs) : List D → Option D
  | [d] => match lk h d with
    | .lst ds => some (.int ds.length)
    | .lsq ds => some (.int ds.length)
    | .tup ds => some (.int ds.length)
    | .str cs => if cs.length ≤ LIM then some (.int cs.length) else none
    | _ => none
  | _ => none
theorem fb_len (hK : X.K = c.K) : FnB X c (.builtin "len") opLen := by
  refine ⟨_, call_len, fun g H h xs ds z Q R r hz q => ?_⟩
  rcases ds with _ | ⟨d, _ | ⟨d2, ds⟩⟩
  · cases hz
  · obtain ⟨v, rfl, rv⟩ := repL1 r
    have vw := lk_vw R rv
    unfold opLen at hz
    dsimp only at hz
    generalize lk h d = w at vw hz
    cases w with
    | lst ds =>
      obtain ⟨a, xs, rfl, hH, rl⟩ := vw
      cases hz
      exact ⟨_, xs.length, rfl, .inl ⟨xs, SqL.of hH, rfl⟩, by rw [rl.length]; exact q g _ H (.refl _) R (.int _)⟩
    | lsq ds =>
      cases (show Rep c g v (.lsq ds) from vw) with
      | lsq hF rl =>
        cases hz
        exact ⟨_, _, rfl, .inl ⟨_, by rw [hK]; exact SqL.monoF hF R.fr, rfl⟩, by rw [rl.length]; exact q g _ H (.refl _) R (.int _)⟩
    | tup ds =>
      obtain ⟨a, xs, rfl, hH, rl⟩ := vw
      cases hz
      exact ⟨_, xs.length, rfl, .inr ⟨xs, by rw [hK]; exact hH, rfl⟩, by rw [rl.length]; exact q g _ H (.refl _) R (.int _)⟩
    | str cs =>
      cases (show Rep c g v (.str cs) from vw)
      dsimp only at hz
      by_cases hl : cs.length ≤ LIM
      · rw [if_pos hl] at hz
        cases hz
        exact ⟨_, cs.length, rfl, ⟨by rw [lim_eq, sOf_len]; exact hl, (sOf_len cs).symm⟩, q g _ H (.refl _) R (.int _)⟩
      · rw [if_neg hl] at hz; cases hz
    | _ => cases hz
  · cases hz
def opInt (_ : Hs) : List D → Option D
  | [.int i] => some (.int i)
  | [.bl b] => some (.int (if b then 1 else 0))
  | _ => none
theorem fb_int : FnB X c (.type "int") opInt := by
  refine ⟨_, call_int1, fun g H h xs ds z Q R r hz q => ?_⟩
  rcases ds with _ | ⟨d, _ | ⟨d2, ds⟩⟩
  · cases hz
  · obtain ⟨v, rfl, rv⟩ := repL1 r
    cases d with
    | int i => cases rv; cases hz; exact .inl ⟨i, rfl, q g _ H (.refl _) R (.int _)⟩
    | bl b => cases rv; cases hz; exact .inr ⟨b, rfl, q g _ H (.refl _) R (.int _)⟩
    | _ => cases hz
  · cases d <;> cases hz
def opAbs (_ : Hs) : List D → Option D
  | [.int i] => some (.int i.natAbs)
  | _ => none
theorem fb_abs : FnB X c (.builtin "abs") opAbs := by
  refine ⟨_, call_abs, fun g H h xs ds z Q R r hz q => ?_⟩
  rcases ds with _ | ⟨d, _ | ⟨d2, ds⟩⟩
  · cases hz
  · obtain ⟨v, rfl, rv⟩ := repL1 r
    cases d with
    | int i =>
      cases rv
      cases hz
      refine ⟨i, rfl, q g _ H (.refl _) R ?_⟩
      rw [show (if i < 0 then -i else i) = ((i.natAbs : Nat) : Int) by split <;> omega]
      exact .int _
    | _ => cases hz
  · cases d <;> cases hz
/-- the figures of an integer -/
def figs (i : Int) : List Nat := (toString i).toList.map Char.toNat
theorem figs_str (i : Int) : Str.ofString (toString i) = sOf (figs i) := Str.ofString_eq_toList _
def opStr (_ : Hs) : List D → Option D
  | [.int i] => if i.natAbs.log2 < 1920 then some (.str (figs i)) else none
  | _ => none
theorem fb_str : FnB X c (.type "str") opStr := by
  refine ⟨_, call_str_int, fun g H h xs ds z Q R r hz q => ?_⟩
  rcases ds with _ | ⟨d, _ | ⟨d2, ds⟩⟩
  · cases hz
  · obtain ⟨v, rfl, rv⟩ := repL1 r
    cases d with
    | int i =>
      cases rv
      unfold opStr at hz
      dsimp only at hz
      by_cases hl : i.natAbs.log2 < 1920
      · rw [if_pos hl] at hz
        cases hz
        exact ⟨i, rfl, hl, q g _ H (.refl _) R (by rw [figs_str]; exact .str _)⟩
      · rw [if_neg hl] at hz; cases hz
    | _ => cases hz
  · cases d <;> cases hz
/-- a list of truths -/
def blsOf : List D → Option (List Bool)
  | [] => some []
  | .bl b :: ds => (blsOf ds).map (b :: ·)
  | _ :: _ => none
theorem blsOf_rep {g : G} : ∀ {ds : List D} {xs : List V} {bs : List Bool}, RepL c g xs ds → blsOf ds = some bs → xs = bs.map V.bl
  | [], _, bs, r, e => by
    cases r
    cases e
    rfl
  | d :: ds, _, bs, r, e => by
    cases r with
    | @cons v _ vs _ r1 r2 =>
      cases d with
      | bl b =>
        cases r1
        have e' : (blsOf ds).map (b :: ·) = some bs := e
        cases q : blsOf ds with
        | none => rw [q] at e'; cases e'
        | some cs =>
          rw [q] at e'
          cases e'
          rw [blsOf_rep r2 q]
          rfl
      | _ => cases e
def opAll (h : Hs) : List D → Option D
  | [d] => match lk h d with
    | .lst ds => (blsOf ds).map fun bs => .bl (bs.all id)
    | _ => none
  | _ => none
def opAny (h : Hs) : List D → Option D
  | [d] => match lk h d with
    | .lst ds => (blsOf ds).map fun bs => .bl (bs.any id)
    | _ => none
  | _ => none
theorem fb_all (hc : X.calm = true) : FnB X c (.builtin "all") opAll := by
  refine ⟨_, cr_all hc, fun g H h xs ds z Q R r hz q => ?_⟩
  rcases ds with _ | ⟨d, _ | ⟨d2, ds⟩⟩
  · cases hz
  · obtain ⟨v, rfl, rv⟩ := repL1 r
    have vw := lk_vw R rv
    unfold opAll at hz
    dsimp only at hz
    generalize lk h d = w at vw hz
    cases w with
    | lst ds =>
      obtain ⟨a, xs, rfl, hH, rl⟩ := vw
      dsimp only at hz
      cases qb : blsOf ds with
      | none => rw [qb] at hz; cases hz
      | some bs =>
        rw [qb] at hz
        cases hz
        exact ⟨a, bs, rfl, by rw [← blsOf_rep rl qb]; exact SqL.of hH, q g _ H (.refl _) R (.bl _)⟩
    | _ => cases hz
  · cases hz
theorem fb_any (hc : X.calm = true) : FnB X c (.builtin "any") opAny := by
  refine ⟨_, cr_any hc, fun g H h xs ds z Q R r hz q => ?_⟩
  rcases ds with _ | ⟨d, _ | ⟨d2, ds⟩⟩
  · cases hz
  · obtain ⟨v, rfl, rv⟩ := repL1 r
    have vw := lk_vw R rv
    unfold opAny at hz
    dsimp only at hz
    generalize lk h d = w at vw hz
    cases w with
    | lst ds =>
      obtain ⟨a, xs, rfl, hH, rl⟩ := vw
      dsimp only at hz
      cases qb : blsOf ds with
      | none => rw [qb] at hz; cases hz
      | some bs =>
        rw [qb] at hz
        cases hz
        exact ⟨a, bs, rfl, by rw [← blsOf_rep rl qb]; exact SqL.of hH, q g _ H (.refl _) R (.bl _)⟩
    | _ => cases hz
  · cases hz

/-! ### isinstance(x, T), T a written built-in class -/
inductive TK where
  | int | bool | str | tuple | list | dict
def TK.name : TK → String
  | .int => "int" | .bool => "bool" | .str => "str" | .tuple => "tuple" | .list => "list" | .dict => "dict"
def isA (k : TK) : D → Option Bool
  | .non => some false
  | .bl _ => some (match k with | .int => true | .bool => true | _ => false)
  | .int _ => some (match k with | .int => true | _ => false)
  | .str _ => some (match k with | .str => true | _ => false)
  | .tup _ => some (match k with | .tuple => true | _ => false)
  | .lst _ => some (match k with | .list => true | _ => false)
  | _ => none
def opIsA (k : TK) (h : Hs) : List D → Option D
  | [d, .ty _] => (isA k (lk h d)).map .bl
  | _ => none
theorem isA_kit {K : PySem.W.Frag} {H : Hp} {g : G} {h : Hs} {d : D} {v : V} {k : TK} {b : Bool} (hK : K = c.K) (R : Rel c g H h) (r : Rep c g v d) (e : isA k (lk h d) = some b) : ∃ t, TyX K H v t ∧ PySem.W.kitOne K t (.type k.name) = some b := by
  subst hK
  have vw := lk_vw R r
  generalize lk h d = w at vw e
  cases w with
  | non => cases (show Rep c g v .non from vw); cases e; refine ⟨_, .base .non, kit_ty ?_⟩; cases k <;> decide +kernel
  | bl x => cases (show Rep c g v (.bl x) from vw); cases e; refine ⟨_, .base (.bl x), kit_ty ?_⟩; cases k <;> decide +kernel
  | int x => cases (show Rep c g v (.int x) from vw); cases e; refine ⟨_, .base (.int x), kit_ty ?_⟩; cases k <;> decide +kernel
  | str x => cases (show Rep c g v (.str x) from vw); cases e; refine ⟨_, .base (.str _), kit_ty ?_⟩; cases k <;> decide +kernel
  | tup ds =>
    obtain ⟨a, xs, rfl, hH, rl⟩ := vw
    cases e
    have hk : PySem.W.kitOne c.K (.type "tuple") (.type k.name) = some (match k with | .tuple => true | _ => false) := kit_ty (by cases k <;> decide +kernel)
    rcases hH with (hH | ⟨o, hH⟩) | ⟨o, its, n, hk1, hc1, _⟩
    · exact ⟨_, .base (.tup hH), hk⟩
    · exact ⟨_, .fTuple hH, hk⟩
    · exact ⟨_, .kTuple hk1 hc1, hk⟩
  | lst ds =>
    obtain ⟨a, xs, rfl, hH, rl⟩ := vw
    cases e
    refine ⟨_, .base (.lst hH), kit_ty ?_⟩
    cases k <;> decide +kernel
  | _ => cases e
theorem fb_isA (k : TK) (hK : X.K = c.K) : FnB X c (.builtin "isinstance") (fun h ds => match ds with
    | [d, .ty n] => if n = k.name then (isA k (lk h d)).map .bl else none
    | _ => none) := by
  refine ⟨_, call_isi, fun g H h xs ds z Q R r hz q => ?_⟩
  rcases ds with _ | ⟨d, _ | ⟨d2, _ | ⟨d3, ds⟩⟩⟩
  · cases hz
  · cases hz
  · obtain ⟨v, u, rfl, rv, ru⟩ := repL2 r
    cases d2 with
    | ty n =>
      cases ru
      dsimp only at hz
      by_cases hn : n = k.name
      · rw [if_pos hn] at hz
        subst hn
        cases qa : isA k (lk h d) with
        | none => rw [qa] at hz; cases hz
        | some b =>
          rw [qa] at hz
          cases hz
          obtain ⟨t, ty, e⟩ := isA_kit hK R rv qa
          exact ⟨v, .ty k.name, t, .type k.name, b, rfl, .ty _, ty, e, q g _ H (.refl _) R (.bl b)⟩
      · rw [if_neg hn] at hz; cases hz
    | _ => cases hz
  · cases d2 <;> cases hz
def cIs (k : TK) (a : IE) : IE := fun e h => (a e h).bind fun d h1 => ofO ((isA k (lk h1 d)).map .bl) h1
theorem cIs_eq {k : TK} {a : IE} : cIs k a = cB (fun h ds => match ds with
    | [d, .ty n] => if n = k.name then (isA k (lk h d)).map .bl else none
    | _ => none) (aCons a (aCons (cC (.ty k.name)) aNil)) := by
  funext e h
  unfold cIs cB aCons
  cases q : a e h with
  | ok d h1 => simp [R.bind, cC, aNil]
  | exc k p h1 => rfl
  | bad => rfl
theorem pi_isA {a : Expr} {ca : IE} {T : Str} {p1 p2 pos : Pos} (k : TK) (hK : X.K = c.K) (hm : X.mg = c.mg) (ha : PE X a (tI c W ca)) (m1 : c.mg "isinstance" = none) (m2 : c.mg T = none) (hT : bootBuiltins T = some (.type k.name) := by decide +kernel)
    (hv : bootBuiltins "isinstance" = some (.builtin "isinstance") := by decide +kernel) (hg : Gl X "isinstance" := by rfl) (hg2 : Gl X T := by rfl) (hn : T ≠ "__name__" := by decide) (hd : (T == ("__debug__" : Str)) = false := by decide)
    (he : starEach [a, .Name T p2] X.env = (false, eval a X.env) :: starEach [.Name T p2] X.env := by rfl) (hpl : (backTo pos (starEach [.Name T p2] X.env)).any (·.1) = false := by rfl) :
    PE X (.Call (.Name "isinstance" p1) [a, .Name T p2] [] pos) (tI c W (cIs k ca)) := by
  rw [cIs_eq]
  exact pi_B hm (fb_isA k hK) m1 hv (pa_c ha (pa_c (pi_type hm m2 hT hg2 hn hd) pa_0) he) hg (by decide) (by decide) he hpl
end
end Pi
end
section
set_option maxRecDepth 100000
set_option autoImplicit false
/-! Pi5: operators. -/
namespace Pi
open PySem PySem.Spec PyProof.Rows L2

/-! ### equality of trees -/
mutual
def eqd : D → D → Bool
  | .non, .non => true
  | .bl a, .bl b => a == b
  | .bl a, .int j => (if a then 1 else 0) == j
  | .int i, .bl b => i == (if b then 1 else 0)
  | .int i, .int j => i == j
  | .str a, .str b => a == b
  | .lst a, .lst b => eqdL a b
  | .tup a, .tup b => eqdL a b
  | _, _ => false
def eqdL : List D → List D → Bool
  | [], [] => true
  | x :: xs, y :: ys => eqd x y && eqdL xs ys
  | _, _ => false
end
mutual
def toP : D → PyData
  | .non => .none
  | .bl b => .bool b
  | .int i => .int i
  | .str cs => .str (sOf cs)
  | .lst ds => .list (toPL ds)
  | .tup ds => .tuple (toPL ds)
  | _ => .none
def toPL : List D → List PyData
  | [] => []
  | d :: ds => toP d :: toPL ds
end
mutual
/-- data: no object of the small heap, no dict, signs below the last one -/
def lay : D → Bool
  | .non | .bl _ | .int _ => true
  | .str cs => cs.all (· < 0x110000)
  | .lst ds | .tup ds => layL ds
  | _ => false
def layL : List D → Bool
  | [] => true
  | d :: ds => lay d && layL ds
end
mutual
def dep : D → Nat
  | .lst ds | .tup ds => depL ds + 1
  | _ => 0
def depL : List D → Nat
  | [] => 0
  | d :: ds => max (dep d) (depL ds)
end
def okD (d : D) : Bool := lay d && decide (dep d ≤ 64)
mutual
theorem toP_lay : ∀ d : D, lay d = true → (toP d).canLay0 = true ∧ (toP d).depth = dep d
  | .non, _ => ⟨rfl, rfl⟩
  | .bl _, _ => ⟨rfl, rfl⟩
  | .int _, _ => ⟨rfl, rfl⟩
  | .str cs, h => by
    refine ⟨?_, rfl⟩
    have h' : cs.all (· < 0x110000) = true := h
    show PyData.strOk (sOf cs) = true
    unfold PyData.strOk
    simpa using h'
  | .lst ds, h => by
    obtain ⟨h1, h2⟩ := toPL_lay ds h
    exact ⟨h1, by show PyData.depthAll (toPL ds) + 1 = depL ds + 1; rw [h2]⟩
  | .tup ds, h => by
    obtain ⟨h1, h2⟩ := toPL_lay ds h
    exact ⟨h1, by show PyData.depthAll (toPL ds) + 1 = depL ds + 1; rw [h2]⟩
  | .dct _, h => nomatch h
  | .ref _, h => nomatch h
  | .glo _, h => nomatch h
  | .ty _, h => nomatch h
theorem toPL_lay : ∀ ds : List D, layL ds = true → PyData.canLayAll0 (toPL ds) = true ∧ PyData.depthAll (toPL ds) = depL ds
  | [], _ => ⟨rfl, rfl⟩
  | d :: ds, h => by
    have h' : lay d = true ∧ layL ds = true := by simpa [layL] using h
    obtain ⟨h1, h2⟩ := toP_lay d h'.1
    obtain ⟨h3, h4⟩ := toPL_lay ds h'.2
    exact ⟨by show (PyData.canLay0 (toP d) && PyData.canLayAll0 (toPL ds)) = true; rw [h1, h3]; rfl, by show max (PyData.depth (toP d)) (PyData.depthAll (toPL ds)) = max (dep d) (depL ds); rw [h2, h4]⟩
end
theorem toP_shaped {d : D} (h : okD d = true) : SeqAt.shaped (toP d) = true := by
  obtain ⟨h1, h2⟩ := Bool.and_eq_true_iff.mp h
  obtain ⟨h3, h4⟩ := toP_lay d h1
  unfold SeqAt.shaped
  rw [h3, h4]
  exact h2
theorem sOf_beq (a b : List Nat) : (sOf a == sOf b) = (a == b) := by
  rw [Bool.eq_iff_iff]
  simp
mutual
theorem eqv_toP : ∀ d e : D, lay d = true → lay e = true → PyData.eqv (toP d) (toP e) = eqd d e
  | .non, .non, _, _ => rfl
  | .non, .bl _, _, _ => rfl
  | .non, .int _, _, _ => rfl
  | .non, .str _, _, _ => rfl
  | .non, .lst _, _, _ => rfl
  | .non, .tup _, _, _ => rfl
  | .bl _, .non, _, _ => rfl
  | .bl _, .bl _, _, _ => by simp [toP, PyData.eqv, eqd]
  | .bl _, .int _, _, _ => by simp [toP, PyData.eqv, eqd]
  | .bl _, .str _, _, _ => rfl
  | .bl _, .lst _, _, _ => rfl
  | .bl _, .tup _, _, _ => rfl
  | .int _, .non, _, _ => rfl
  | .int _, .bl _, _, _ => by simp [toP, PyData.eqv, eqd]
  | .int _, .int _, _, _ => by simp [toP, PyData.eqv, eqd]
  | .int _, .str _, _, _ => rfl
  | .int _, .lst _, _, _ => rfl
  | .int _, .tup _, _, _ => rfl
  | .str _, .non, _, _ => rfl
  | .str _, .bl _, _, _ => rfl
  | .str _, .int _, _, _ => rfl
  | .str a, .str b, _, _ => by
    rw [toP, toP, PyData.eqv, eqd]
    exact sOf_beq a b
  | .str _, .lst _, _, _ => rfl
  | .str _, .tup _, _, _ => rfl
  | .lst _, .non, _, _ => rfl
  | .lst _, .bl _, _, _ => rfl
  | .lst _, .int _, _, _ => rfl
  | .lst _, .str _, _, _ => rfl
  | .lst a, .lst b, h1, h2 => by
    rw [toP, toP, PyData.eqv, eqd]
    exact eqv_toPL a b h1 h2
  | .lst _, .tup _, _, _ => rfl
  | .tup _, .non, _, _ => rfl
  | .tup _, .bl _, _, _ => rfl
  | .tup _, .int _, _, _ => rfl
  | .tup _, .str _, _, _ => rfl
  | .tup _, .lst _, _, _ => rfl
  | .tup a, .tup b, h1, h2 => by
    rw [toP, toP, PyData.eqv, eqd]
    exact eqv_toPL a b h1 h2
  | .dct _, _, h, _ => nomatch h
  | .ref _, _, h, _ => nomatch h
  | .glo _, _, h, _ => nomatch h
  | .ty _, _, h, _ => nomatch h
  | .non, .dct _, _, h | .non, .ref _, _, h | .non, .glo _, _, h | .non, .ty _, _, h => nomatch h
  | .bl _, .dct _, _, h | .bl _, .ref _, _, h | .bl _, .glo _, _, h | .bl _, .ty _, _, h => nomatch h
  | .int _, .dct _, _, h | .int _, .ref _, _, h | .int _, .glo _, _, h | .int _, .ty _, _, h => nomatch h
  | .str _, .dct _, _, h | .str _, .ref _, _, h | .str _, .glo _, _, h | .str _, .ty _, _, h => nomatch h
  | .lst _, .dct _, _, h | .lst _, .ref _, _, h | .lst _, .glo _, _, h | .lst _, .ty _, _, h => nomatch h
  | .tup _, .dct _, _, h | .tup _, .ref _, _, h | .tup _, .glo _, _, h | .tup _, .ty _, _, h => nomatch h
theorem eqv_toPL : ∀ a b : List D, layL a = true → layL b = true → PyData.eqvAll (toPL a) (toPL b) = eqdL a b
  | [], [], _, _ => rfl
  | [], _ :: _, _, _ => rfl
  | _ :: _, [], _, _ => rfl
  | x :: xs, y :: ys, h1, h2 => by
    have h1' : lay x = true ∧ layL xs = true := by simpa [layL] using h1
    have h2' : lay y = true ∧ layL ys = true := by simpa [layL] using h2
    rw [toPL, toPL, PyData.eqvAll, eqdL, eqv_toP x y h1'.1 h2'.1, eqv_toPL xs ys h1'.2 h2'.2]
end

section
variable {X : Cx} {c : Cn} {W : WX}
mutual
theorem dp_of {g : G} {H : Hp} (fr : ∀ a o, g.F a = some o → H a = some o) : ∀ {v : V} {d : D}, Rep c g v d → lay d = true → Dp c.K H v (toP d)
  | _, _, .non, _ => .non
  | _, _, .bl b, _ => .bl b
  | _, _, .int i, _ => .int i
  | _, _, .str cs, _ => .str _
  | _, _, .tup h r, hl => .tup (SqT.monoF h fr) (dpL_of fr r hl)
  | _, _, .lst h r, hl => .lst (SqL.of (fr _ _ h)) (dpL_of fr r hl)
  | _, _, .ref _, hl => nomatch hl
  | _, _, .glo _, hl => nomatch hl
  | _, _, .ty _, hl => nomatch hl
  | _, _, .lsq _ _, hl => nomatch hl
theorem dpL_of {g : G} {H : Hp} (fr : ∀ a o, g.F a = some o → H a = some o) : ∀ {vs : List V} {ds : List D}, RepL c g vs ds → layL ds = true → DpAll c.K H vs (toPL ds)
  | _, _, .nil, _ => .nil
  | _, _, .cons r rs, hl => by
    have h' := Bool.and_eq_true_iff.mp hl
    exact .cons (dp_of fr r h'.1) (dpL_of fr rs h'.2)
end
theorem dp_vw {g : G} {H : Hp} {v : V} {d : D} (fr : ∀ a o, g.F a = some o → H a = some o) (vw : Vw c g H v d) (hl : lay d = true) : Dp c.K H v (toP d) := by
  cases d with
  | lst ds =>
    obtain ⟨a, xs, rfl, hH, rl⟩ := vw
    exact .lst (SqL.of hH) (dpL_of fr rl hl)
  | tup ds =>
    obtain ⟨a, xs, rfl, hH, rl⟩ := vw
    exact .tup hH (dpL_of fr rl hl)
  | non => exact dp_of fr (show Rep c g v .non from vw) hl
  | bl b => exact dp_of fr (show Rep c g v (.bl b) from vw) hl
  | int i => exact dp_of fr (show Rep c g v (.int i) from vw) hl
  | str s => exact dp_of fr (show Rep c g v (.str s) from vw) hl
  | _ => cases hl
def opEq (h : Hs) (d e : D) : Option D := if okD (lk h d) && okD (lk h e) then some (.bl (eqd (lk h d) (lk h e))) else none
def opNe (h : Hs) (d e : D) : Option D := if okD (lk h d) && okD (lk h e) then some (.bl (!eqd (lk h d) (lk h e))) else none
theorem o_eq (hK : X.K = c.K) (hu : X.A.units + 64 < cLine) : Op2 X c (compareOp .Eq) opEq := .of (op_eqD hu) fun g H h x y d e z Q R rx ry hz q => by
  unfold opEq at hz
  by_cases ok : (okD (lk h d) && okD (lk h e)) = true
  · rw [if_pos ok] at hz
    cases hz
    obtain ⟨o1, o2⟩ := Bool.and_eq_true_iff.mp ok
    have l1 := (Bool.and_eq_true_iff.mp o1).1
    have l2 := (Bool.and_eq_true_iff.mp o2).1
    refine ⟨_, _, by rw [hK]; exact dp_vw R.fr (lk_vw R rx) l1, by rw [hK]; exact dp_vw R.fr (lk_vw R ry) l2, toP_shaped o1, toP_shaped o2, ?_⟩
    rw [eqv_toP _ _ l1 l2]
    exact q g _ H (.refl _) R (.bl _)
  · rw [if_neg ok] at hz; cases hz
theorem o_ne (hK : X.K = c.K) (hu : X.A.units + 64 < cLine) : Op2 X c (compareOp .NotEq) opNe := .of (op_neD hu) fun g H h x y d e z Q R rx ry hz q => by
  unfold opNe at hz
  by_cases ok : (okD (lk h d) && okD (lk h e)) = true
  · rw [if_pos ok] at hz
    cases hz
    obtain ⟨o1, o2⟩ := Bool.and_eq_true_iff.mp ok
    have l1 := (Bool.and_eq_true_iff.mp o1).1
    have l2 := (Bool.and_eq_true_iff.mp o2).1
    refine ⟨_, _, by rw [hK]; exact dp_vw R.fr (lk_vw R rx) l1, by rw [hK]; exact dp_vw R.fr (lk_vw R ry) l2, toP_shaped o1, toP_shaped o2, ?_⟩
    rw [eqv_toP _ _ l1 l2]
    exact q g _ H (.refl _) R (.bl _)
  · rw [if_neg ok] at hz; cases hz
theorem Ctx.units64 {n : Nat} (cx : Ctx X c W n) : X.A.units + 64 < cLine := cx.room.units
theorem units65 {n : Nat} (cx : Ctx X c W n) : X.A.units + 65 < cLine := by have := cx.room.un; omega

/-! ### order of ints -/
def opI2 (f : Int → Int → D) (_ : Hs) (d e : D) : Option D := match d, e with
  | .int i, .int j => some (f i j)
  | _, _ => none
theorem o_I2 {f : Value → Value → Sem Value} {k : Int → Int → V} {m : Int → Int → D} (ho : OpR X f (rI0 k)) (hr : ∀ g i j, Rep c g (k i j) (m i j)) : Op2 X c f (opI2 m) := .of ho fun g H h x y d e z Q R rx ry hz q => by
  cases d with
  | int i =>
    cases e with
    | int j =>
      cases rx
      cases ry
      cases hz
      exact ⟨i, j, rfl, rfl, q g _ H (.refl _) R (hr g i j)⟩
    | _ => cases hz
  | _ => cases hz
theorem o_lt : Op2 X c (compareOp .Lt) (opI2 fun i j => .bl (decide (i < j))) := o_I2 op_lt fun _ _ _ => .bl _
theorem o_le : Op2 X c (compareOp .LtE) (opI2 fun i j => .bl (decide (i ≤ j))) := o_I2 op_le fun _ _ _ => .bl _
theorem o_gt : Op2 X c (compareOp .Gt) (opI2 fun i j => .bl (decide (j < i))) := o_I2 op_gt fun _ _ _ => .bl _
theorem o_ge : Op2 X c (compareOp .GtE) (opI2 fun i j => .bl (decide (j ≤ i))) := o_I2 op_ge fun _ _ _ => .bl _
/-- is None -/
def isNon : D → Bool
  | .non => true
  | _ => false
def opIsN (_ : Hs) (d : D) : D → Option D
  | .non => some (.bl (isNon d))
  | _ => none
def opIsNot (_ : Hs) (d : D) : D → Option D
  | .non => some (.bl (!isNon d))
  | _ => none
theorem rep_non {g : G} {x : V} {d : D} (r : Rep c g x d) : decide (x = .non) = isNon d := by cases r <;> simp [isNon]
theorem o_isN : Op2 X c (compareOp .Is) opIsN := .of op_isN fun g H h x y d e z Q R rx ry hz q => by
  cases e with
  | non =>
    cases ry
    cases hz
    exact ⟨rfl, by rw [rep_non rx]; exact q g _ H (.refl _) R (.bl _)⟩
  | _ => cases hz
theorem o_isNot : Op2 X c (compareOp .IsNot) opIsNot := .of op_notN fun g H h x y d e z Q R rx ry hz q => by
  cases e with
  | non =>
    cases ry
    cases hz
    exact ⟨rfl, by rw [rep_non rx]; exact q g _ H (.refl _) R (.bl _)⟩
  | _ => cases hz

/-! ### in -/
/-- one sign -/
def sgn1 : D → Option Nat
  | .str [k] => some k
  | _ => none
def opIn (h : Hs) (d e : D) : Option D := match lk h e with
  | .str cs => (sgn1 d).map fun k => .bl (cs.contains k)
  | .lst ds => if okD d && okD (.lst ds) then some (.bl (ds.any fun z => eqd z d)) else none
  | .tup ds => if okD d && okD (.tup ds) then some (.bl (ds.any fun z => eqd z d)) else none
  | _ => none
def opNotIn (h : Hs) (d e : D) : Option D := match opIn h d e with
  | some (.bl b) => some (.bl (!b))
  | _ => none
def rInT (K : PySem.W.Frag) (neg : Bool) : R2 := fun x y H Q => ∃ d ds, Dp K H x d ∧ Dp K H y (.tuple ds) ∧ SeqAt.shaped d = true ∧ SeqAt.shaped (.tuple ds) = true ∧ Q (.bl (if neg then !(ds.any fun z => PyData.eqv z d) else ds.any fun z => PyData.eqv z d)) H
theorem in_units {A : Around} {d : PyData} {xs : List PyData} (sd : SeqAt.shaped d = true) (hu : A.units + 65 < cLine) : A.units + 1 + min (PyData.depthAll xs) d.depth < cLine := by
  have h1 := SeqAt.depth_of_shaped sd
  have h2 : min (PyData.depthAll xs) d.depth ≤ d.depth := Nat.min_le_right _ _
  omega
theorem op_inT (hu : X.A.units + 65 < cLine) : OpR X (compareOp .In) (rInT X.K false) := by
  rintro pins s σ H x y v u Q I rx ry ⟨d, ds, hd, he, sd, se, q⟩
  obtain ⟨as, r1⟩ := Dp.reads I d x v hd rx
  obtain ⟨bs, r2⟩ := Dp.reads I (.tuple ds) y u he ry
  exact SeqAt.in_tuple_reads r2 r1 (SeqAt.canLay_of_shaped se) (SeqAt.canLay_of_shaped sd) (in_units sd hu) ⟨.bl _, H, I, rfl, q⟩
theorem op_notInT (hu : X.A.units + 65 < cLine) : OpR X (compareOp .NotIn) (rInT X.K true) := by
  rintro pins s σ H x y v u Q I rx ry ⟨d, ds, hd, he, sd, se, q⟩
  obtain ⟨as, r1⟩ := Dp.reads I d x v hd rx
  obtain ⟨bs, r2⟩ := Dp.reads I (.tuple ds) y u he ry
  exact SeqAt.notIn_tuple_reads r2 r1 (SeqAt.canLay_of_shaped se) (SeqAt.canLay_of_shaped sd) (in_units sd hu) ⟨.bl _, H, I, rfl, q⟩
theorem any_toP {d : D} (h : lay d = true) : ∀ ds : List D, layL ds = true → ((toPL ds).any fun z => PyData.eqv z (toP d)) = ds.any fun z => eqd z d
  | [], _ => rfl
  | e :: ds, hl => by
    have h' := Bool.and_eq_true_iff.mp hl
    rw [toPL, List.any_cons, List.any_cons, eqv_toP _ _ h'.1 h, any_toP h ds h'.2]
theorem contains_decide (cs : List Nat) (k : Nat) : decide (k ∈ cs) = cs.contains k := by
  rw [Bool.eq_iff_iff]; simp
theorem sgn1_ok {g : G} {x : V} {d : D} {k : Nat} (rx : Rep c g x d) (e : sgn1 d = some k) : d = .str [k] ∧ x = .str (sOf [k]) := by
  cases rx with
  | str cs =>
    match cs, e with
    | [k'], e => cases e; exact ⟨rfl, rfl⟩
  | _ => cases e
theorem o_in (hK : X.K = c.K) (hu : X.A.units + 65 < cLine) : Op2 X c (compareOp .In) opIn := .of ((op_in_sign).or ((op_inD hu).or (op_inT hu))) fun g H h x y d e z Q R rx ry hz q => by
  have vw := lk_vw R ry
  unfold opIn at hz
  generalize lk h e = w at vw hz
  cases w with
  | str cs =>
    cases (show Rep c g y (.str cs) from vw)
    dsimp only at hz
    cases hk : sgn1 d with
    | none => rw [hk] at hz; cases hz
    | some k =>
      rw [hk] at hz
      cases hz
      obtain ⟨rfl, rfl⟩ := sgn1_ok rx hk
      exact .inl ⟨k, _, rfl, rfl, by rw [sOf_toList, contains_decide]; exact q g _ H (.refl _) R (.bl _)⟩
  | lst ds =>
    dsimp only at hz
    by_cases ok : (okD d && okD (.lst ds)) = true
    · rw [if_pos ok] at hz
      cases hz
      obtain ⟨o1, o2⟩ := Bool.and_eq_true_iff.mp ok
      have l1 := (Bool.and_eq_true_iff.mp o1).1
      have l2 := (Bool.and_eq_true_iff.mp o2).1
      exact .inr (.inl ⟨_, toPL ds, by rw [hK]; exact dp_of R.fr rx l1, by rw [hK]; exact dp_vw (d := .lst ds) R.fr vw l2, toP_shaped o1, toP_shaped (d := .lst ds) o2, by rw [any_toP l1 ds l2]; exact q g _ H (.refl _) R (.bl _)⟩)
    · rw [if_neg ok] at hz; cases hz
  | tup ds =>
    dsimp only at hz
    by_cases ok : (okD d && okD (.tup ds)) = true
    · rw [if_pos ok] at hz
      cases hz
      obtain ⟨o1, o2⟩ := Bool.and_eq_true_iff.mp ok
      have l1 := (Bool.and_eq_true_iff.mp o1).1
      have l2 := (Bool.and_eq_true_iff.mp o2).1
      refine .inr (.inr ⟨_, toPL ds, by rw [hK]; exact dp_of R.fr rx l1, by rw [hK]; exact dp_vw (d := .tup ds) R.fr vw l2, toP_shaped o1, toP_shaped (d := .tup ds) o2, ?_⟩)
      rw [if_neg Bool.false_ne_true, any_toP l1 ds l2]; exact q g _ H (.refl _) R (.bl _)
    · rw [if_neg ok] at hz; cases hz
  | _ => cases hz
theorem o_notIn (hK : X.K = c.K) (hu : X.A.units + 65 < cLine) : Op2 X c (compareOp .NotIn) opNotIn := .of ((op_notIn_sign).or ((op_notInD hu).or (op_notInT hu))) fun g H h x y d e z Q R rx ry hz q => by
  have vw := lk_vw R ry
  unfold opNotIn opIn at hz
  generalize lk h e = w at vw hz
  cases w with
  | str cs =>
    cases (show Rep c g y (.str cs) from vw)
    dsimp only at hz
    cases hk : sgn1 d with
    | none => rw [hk] at hz; cases hz
    | some k =>
      rw [hk] at hz
      cases hz
      obtain ⟨rfl, rfl⟩ := sgn1_ok rx hk
      exact .inl ⟨k, _, rfl, rfl, by rw [sOf_toList, contains_decide]; exact q g _ H (.refl _) R (.bl _)⟩
  | lst ds =>
    dsimp only at hz
    by_cases ok : (okD d && okD (.lst ds)) = true
    · rw [if_pos ok] at hz
      cases hz
      obtain ⟨o1, o2⟩ := Bool.and_eq_true_iff.mp ok
      have l1 := (Bool.and_eq_true_iff.mp o1).1
      have l2 := (Bool.and_eq_true_iff.mp o2).1
      exact .inr (.inl ⟨_, toPL ds, by rw [hK]; exact dp_of R.fr rx l1, by rw [hK]; exact dp_vw (d := .lst ds) R.fr vw l2, toP_shaped o1, toP_shaped (d := .lst ds) o2, by rw [any_toP l1 ds l2]; exact q g _ H (.refl _) R (.bl _)⟩)
    · rw [if_neg ok] at hz; cases hz
  | tup ds =>
    dsimp only at hz
    by_cases ok : (okD d && okD (.tup ds)) = true
    · rw [if_pos ok] at hz
      cases hz
      obtain ⟨o1, o2⟩ := Bool.and_eq_true_iff.mp ok
      have l1 := (Bool.and_eq_true_iff.mp o1).1
      have l2 := (Bool.and_eq_true_iff.mp o2).1
      refine .inr (.inr ⟨_, toPL ds, by rw [hK]; exact dp_of R.fr rx l1, by rw [hK]; exact dp_vw (d := .tup ds) R.fr vw l2, toP_shaped o1, toP_shaped (d := .tup ds) o2, ?_⟩)
      rw [if_pos rfl, any_toP l1 ds l2]; exact q g _ H (.refl _) R (.bl _)
    · rw [if_neg ok] at hz; cases hz
  | _ => cases hz
end
end Pi
end
section
set_option maxRecDepth 100000
set_option autoImplicit false
/-! Pi6: arithmetic, methods of built-in types. -/
namespace Pi
open PySem PySem.Spec PyProof.Rows L2

theorem sOf_append (a b : List Nat) : sOf a ++ sOf b = sOf (a ++ b) := by
  show (⟨a.toArray ++ b.toArray⟩ : Str) = ⟨(a ++ b).toArray⟩
  rw [List.append_toArray]
section
variable {X : Cx} {c : Cn} {W : WX}
theorem lk_tupR {g : G} {H : Hp} {h : Hs} {d : D} {v : V} {ds : List D} (R : Rel c g H h) (r : Rep c g v d) (e : lk h d = .tup ds) : Rep c g v (.tup ds) := by
  cases d with
  | ref n =>
    cases r with
    | @ref _ a hn =>
      obtain ⟨x, hx, ok⟩ := R.at hn
      have e' : (match h[n]? with | some (.lst ds) => D.lst ds | some (.fz d) => d | _ => D.ref n) = .tup ds := e
      rw [hx] at e'
      cases ok with
      | lst f hH rl => cases e'
      | fz hF rp =>
        have e2 : _ = D.tup ds := e'
        subst e2
        exact rp
      | ins _ _ _ _ _ => cases e'
  | tup es => cases e; exact r
  | _ => cases e
def opAdd (h : Hs) (d e : D) : Option D := match lk h d, lk h e with
  | .int i, .int j => some (.int (i + j))
  | .str a, .str b => if a.length + b.length ≤ LIM then some (.str (a ++ b)) else none
  | .lst a, .lst b => if a.length + b.length ≤ LIM then some (.lst (a ++ b)) else none
  | .tup a, .tup b => if a.length + b.length ≤ LIM then some (.tup (a ++ b)) else none
  | _, _ => none
theorem o_add (hK : X.K = c.K) : Op2 X c (binaryOp .Add) opAdd := .of (op_add.or (op_add_str.or (op_cat.or op_catA))) fun g H h x y d e z Q R rx ry hz q => by
  have v1 := lk_vw R rx
  have v2 := lk_vw R ry
  have t1 := fun ds => lk_tupR (ds := ds) R rx
  have t2 := fun ds => lk_tupR (ds := ds) R ry
  unfold opAdd at hz
  generalize lk h d = w1 at v1 hz t1
  generalize lk h e = w2 at v2 hz t2
  cases w1 with
  | int i =>
    cases w2 with
    | int j =>
      cases (show Rep c g x (.int i) from v1)
      cases (show Rep c g y (.int j) from v2)
      cases hz
      exact .inl ⟨i, j, rfl, rfl, q g _ H (.refl _) R (.int _)⟩
    | _ => cases hz
  | str a =>
    cases w2 with
    | str b =>
      cases (show Rep c g x (.str a) from v1)
      cases (show Rep c g y (.str b) from v2)
      dsimp only at hz
      by_cases hl : a.length + b.length ≤ LIM
      · rw [if_pos hl] at hz
        cases hz
        exact .inr (.inl ⟨_, _, rfl, rfl, by rw [sOf_len, sOf_len, lim_eq]; exact hl, by rw [sOf_append]; exact q g _ H (.refl _) R (.str _)⟩)
      · rw [if_neg hl] at hz; cases hz
    | _ => cases hz
  | lst a =>
    cases w2 with
    | lst b =>
      obtain ⟨p1, xs, rfl, h1, r1⟩ := v1
      obtain ⟨p2, ys, rfl, h2, r2⟩ := v2
      dsimp only at hz
      by_cases hl : a.length + b.length ≤ LIM
      · rw [if_pos hl] at hz
        cases hz
        exact .inr (.inr (.inl ⟨p1, p2, xs, ys, rfl, rfl, h1, h2, by rw [r1.length, r2.length, lim_eq]; exact hl, fun p hp => new_lst (Q := Q) (Wx := fun _ _ _ => False) R (r1.append r2) (fun g' v H' l R' r' => q g' v H' l R' r') p hp⟩))
      · rw [if_neg hl] at hz; cases hz
    | _ => cases hz
  | tup a =>
    cases w2 with
    | tup b =>
      have t1 := t1 a rfl
      have t2 := t2 b rfl
      obtain ⟨p1, xs, rfl, h1, r1⟩ := v1
      obtain ⟨p2, ys, rfl, h2, r2⟩ := v2
      dsimp only at hz
      by_cases hl : a.length + b.length ≤ LIM
      · rw [if_pos hl] at hz
        cases hz
        refine .inr (.inr (.inr ⟨p1, p2, xs, ys, rfl, rfl, by rw [hK]; exact h1, by rw [hK]; exact h2, by rw [r1.length, r2.length, lim_eq]; exact hl, fun e => ?_, fun _ e => ?_, fun _ _ p hp => ?_⟩))
        · subst e
          cases r1
          exact q g _ H (.refl _) R t2
        · subst e
          cases r2
          exact q g _ H (.refl _) R (by rw [List.append_nil]; exact t1)
        · exact new_tup (Q := Q) (Wx := fun _ _ _ => False) R (r1.append r2) (fun g' v H' l R' r' => q g' v H' l R' r') p hp
      · rw [if_neg hl] at hz; cases hz
    | _ => cases hz
  | _ => cases hz
theorem o_sub : Op2 X c (binaryOp .Sub) (opI2 fun i j => .int (i - j)) := o_I2 op_sub fun _ _ _ => .int _
/-- a text so many times -/
theorem op_mul_str : OpR X (binaryOp .Mult) (fun x y H Q => ∃ (cs : List Nat) (k : Int), x = .str (sOf cs) ∧ y = .int k ∧ -(2 ^ 63) ≤ k ∧ k < 2 ^ 63 ∧ cs.length * k.toNat ≤ LIM ∧ Q (.str (sOf (List.replicate k.toNat cs).flatten)) H) := by
  rintro pins s σ H x y v u Q I rx ry ⟨cs, k, rfl, rfl, h1, h2, hz, q⟩
  obtain ⟨t, rfl⟩ := rx
  obtain ⟨t', rfl⟩ := ry
  have hr : (decide (k < -(2 ^ 63 : Int)) || decide (k ≥ 2 ^ 63)) = false := by
    rw [decide_eq_false (by omega), decide_eq_false (by omega)]; rfl
  have hl0 : (sOf cs).length = cs.length := sOf_len cs
  refine PySem.P.mul_str hr (fun n1 n2 => ?_) (fun n1 n2 => ?_) ?_
  · rw [hl0]
    have hk : 1 ≤ k := by omega
    have hc : cs.length ≤ LIM := by
      have : 1 ≤ k.toNat := by omega
      calc cs.length = cs.length * 1 := by omega
        _ ≤ cs.length * k.toNat := Nat.mul_le_mul_left _ this
        _ ≤ LIM := hz
    intro hgt
    have h3 : (cs.length : Int) * k ≤ ((LIM : Nat) : Int) := by
      have e : ((cs.length * k.toNat : Nat) : Int) ≤ ((LIM : Nat) : Int) := Int.ofNat_le.mpr hz
      rw [Int.natCast_mul, Int.toNat_of_nonneg (by omega)] at e
      exact e
    have h4 : (2 ^ 63 - 1 : Int) < (cs.length : Int) * k := by
      have h5 := Int.lt_ediv_add_one_mul_self (2 ^ 63 - 1 : Int) (show (0 : Int) < k by omega)
      have h6 : ((2 ^ 63 - 1 : Int) / k + 1) * k ≤ (cs.length : Int) * k := Int.mul_le_mul_of_nonneg_right (by omega) (by omega)
      omega
    have h7 : ((LIM : Nat) : Int) = 16777216 := rfl
    omega
  · rw [hl0]
    unfold PySem.Builtin.Str.tooLong
    refine decide_eq_false fun hgt => ?_
    have hgt' : sizeLine < cs.length * k.toNat := hgt
    rw [lim_eq] at hgt'
    omega
  · have fl : ∀ (m : Nat) (acc : List Nat), (List.replicate m cs.toArray).foldl (· ++ ·) acc.toArray = (acc ++ (List.replicate m cs).flatten).toArray := by
      intro m
      induction m with
      | zero => intro acc; simp
      | succ m ih =>
        intro acc
        rw [List.replicate_succ, List.foldl_cons, List.append_toArray, ih, List.replicate_succ, List.flatten_cons, List.append_assoc]
    by_cases n1 : k < 1
    · rw [if_pos n1]
      have e : k.toNat = 0 := by omega
      rw [e] at q
      exact ⟨by decide, .str _, H, I.tok _, ⟨_, rfl⟩, q⟩
    · rw [if_neg n1]
      by_cases n2 : (k == 1 || (sOf cs).length == 0) = true
      · rw [if_pos n2]
        have e : (List.replicate k.toNat cs).flatten = cs := by
          rcases Bool.or_eq_true_iff.mp n2 with n3 | n3
          · have : k = 1 := by simpa using n3
            subst this
            simp
          · have : cs = [] := by
              rw [hl0] at n3
              simpa using n3
            subst this
            simp
        rw [e] at q
        exact ⟨.str _, H, I, ⟨_, rfl⟩, q⟩
      · rw [if_neg n2]
        have e := fl k.toNat []
        have e2 : (⟨(List.replicate k.toNat (sOf cs).cps).foldl (· ++ ·) #[]⟩ : Str) = sOf (List.replicate k.toNat cs).flatten := by
          show (⟨(List.replicate k.toNat cs.toArray).foldl (· ++ ·) ([] : List Nat).toArray⟩ : Str) = _
          rw [e, List.nil_append]
        rw [e2]
        refine ⟨?_, .str _, H, I.tok _, ⟨_, rfl⟩, q⟩
        rw [sOf_len, lm_len_rep_flat, Nat.mul_comm, lim_eq]
        exact hz
/-- * of two ints: a small factor, or both of less than a million bits together -/
def mulOk (i j : Int) : Bool := (decide (-(2 ^ 64) < i) && decide (i < 2 ^ 64)) || ((decide (-(2 ^ 64) < j) && decide (j < 2 ^ 64)) || decide (i.natAbs.log2 + j.natAbs.log2 < 1000000))
def opMul (h : Hs) (d e : D) : Option D := match lk h d, e with
  | .int i, .int j => if mulOk i j then some (.int (i * j)) else none
  | .str cs, .int k => if decide (-(2 ^ 63) ≤ k) && (decide (k < 2 ^ 63) && decide (cs.length * k.toNat ≤ LIM)) then some (.str (List.replicate k.toNat cs).flatten) else none
  | .lst ds, .int k => if decide (-(2 ^ 63) ≤ k) && (decide (k < 2 ^ 63) && decide (ds.length * k.toNat ≤ LIM)) then some (.lst (List.replicate k.toNat ds).flatten) else none
  | _, _ => none
theorem RepL.rep {g : G} {xs : List V} {ds : List D} (r : RepL c g xs ds) : ∀ k : Nat, RepL c g (List.replicate k xs).flatten (List.replicate k ds).flatten
  | 0 => .nil
  | k + 1 => by
    rw [List.replicate_succ, List.replicate_succ, List.flatten_cons, List.flatten_cons]
    exact r.append (RepL.rep r k)
theorem o_mul : Op2 X c (binaryOp .Mult) opMul := .of ((op_mul.or op_mulW).or (op_mul_str.or op_rep)) fun g H h x y d e z Q R rx ry hz q => by
  have v1 := lk_vw R rx
  unfold opMul at hz
  generalize lk h d = w1 at v1 hz
  cases w1 with
  | int i =>
    cases e with
    | int j =>
      cases (show Rep c g x (.int i) from v1)
      cases ry
      dsimp only at hz
      by_cases ok : mulOk i j = true
      · rw [if_pos ok] at hz
        cases hz
        unfold mulOk at ok
        refine .inl ?_
        rcases Bool.or_eq_true_iff.mp ok with o | o
        · obtain ⟨o1, o2⟩ := Bool.and_eq_true_iff.mp o
          exact .inl ⟨i, j, rfl, rfl, .inl ⟨of_decide_eq_true o1, of_decide_eq_true o2⟩, q g _ H (.refl _) R (.int _)⟩
        · rcases Bool.or_eq_true_iff.mp o with o | o
          · obtain ⟨o1, o2⟩ := Bool.and_eq_true_iff.mp o
            exact .inl ⟨i, j, rfl, rfl, .inr ⟨of_decide_eq_true o1, of_decide_eq_true o2⟩, q g _ H (.refl _) R (.int _)⟩
          · exact .inr ⟨i, j, rfl, rfl, (show i.natAbs.log2 + j.natAbs.log2 < 1000000 from of_decide_eq_true o), q g _ H (.refl _) R (.int _)⟩
      · rw [if_neg ok] at hz; cases hz
    | _ => cases hz
  | str cs =>
    cases e with
    | int k =>
      cases (show Rep c g x (.str cs) from v1)
      cases ry
      dsimp only at hz
      by_cases ok : (decide (-(2 ^ 63) ≤ k) && (decide (k < 2 ^ 63) && decide (cs.length * k.toNat ≤ LIM))) = true
      · rw [if_pos ok] at hz
        cases hz
        obtain ⟨o1, o2⟩ := Bool.and_eq_true_iff.mp ok
        obtain ⟨o2, o3⟩ := Bool.and_eq_true_iff.mp o2
        exact .inr (.inl ⟨cs, k, rfl, rfl, of_decide_eq_true o1, of_decide_eq_true o2, of_decide_eq_true o3, q g _ H (.refl _) R (.str _)⟩)
      · rw [if_neg ok] at hz; cases hz
    | _ => cases hz
  | lst ds =>
    cases e with
    | int k =>
      obtain ⟨a, xs, rfl, hH, rl⟩ := v1
      cases ry
      dsimp only at hz
      by_cases ok : (decide (-(2 ^ 63) ≤ k) && (decide (k < 2 ^ 63) && decide (ds.length * k.toNat ≤ LIM))) = true
      · rw [if_pos ok] at hz
        cases hz
        obtain ⟨o1, o2⟩ := Bool.and_eq_true_iff.mp ok
        obtain ⟨o2, o3⟩ := Bool.and_eq_true_iff.mp o2
        exact .inr (.inr ⟨a, k, xs, rfl, rfl, hH, of_decide_eq_true o1, of_decide_eq_true o2, by rw [rl.length, lim_eq]; exact of_decide_eq_true o3, fun p hp => new_lst (Q := Q) (Wx := fun _ _ _ => False) R (rl.rep _) (fun g' v H' l R' r' => q g' v H' l R' r') p hp⟩)
      · rw [if_neg ok] at hz; cases hz
    | _ => cases hz
  | _ => cases hz
def divOk (j : Int) : Bool := decide (0 < j) && decide (j.natAbs.log2 < 9000)
def opFdiv (_ : Hs) : D → D → Option D
  | .int i, .int j => if divOk j then some (.int (i / j)) else none
  | _, _ => none
def opMod (_ : Hs) : D → D → Option D
  | .int i, .int j => if 0 < j then some (.int (i % j)) else none
  | _, _ => none
def powOk (i j : Int) : Bool := decide (0 ≤ j) && (decide (j ≤ 1000000) && decide (i.natAbs < 2 ^ 64))
def opPow (_ : Hs) : D → D → Option D
  | .int i, .int j => if powOk i j then some (.int (i ^ j.toNat)) else none
  | _, _ => none
theorem o_fdiv' {f : Value → Value → Sem Value} (ho : OpR X f (rI CDivW fun i j => .int (i / j))) : Op2 X c f opFdiv := .of ho fun g H h x y d e z Q R rx ry hz q => by
  cases d with
  | int i =>
    cases e with
    | int j =>
      cases rx
      cases ry
      unfold opFdiv at hz
      dsimp only at hz
      by_cases ok : divOk j = true
      · rw [if_pos ok] at hz
        cases hz
        obtain ⟨o1, o2⟩ := Bool.and_eq_true_iff.mp ok
        exact ⟨i, j, rfl, rfl, ⟨of_decide_eq_true o1, of_decide_eq_true o2⟩, q g _ H (.refl _) R (.int _)⟩
      · rw [if_neg ok] at hz; cases hz
    | _ => cases hz
  | _ => cases hz
theorem o_fdiv : Op2 X c (binaryOp .FloorDiv) opFdiv := o_fdiv' op_fdivW
theorem o_mod : Op2 X c (binaryOp .Mod) opMod := .of op_mod fun g H h x y d e z Q R rx ry hz q => by
  cases d with
  | int i =>
    cases e with
    | int j =>
      cases rx
      cases ry
      unfold opMod at hz
      dsimp only at hz
      by_cases ok : 0 < j
      · rw [if_pos ok] at hz
        cases hz
        exact ⟨i, j, rfl, rfl, ok, q g _ H (.refl _) R (.int _)⟩
      · rw [if_neg ok] at hz; cases hz
    | _ => cases hz
  | _ => cases hz
theorem o_pow : Op2 X c (binaryOp .Pow) opPow := .of op_pow fun g H h x y d e z Q R rx ry hz q => by
  cases d with
  | int i =>
    cases e with
    | int j =>
      cases rx
      cases ry
      unfold opPow at hz
      dsimp only at hz
      by_cases ok : powOk i j = true
      · rw [if_pos ok] at hz
        cases hz
        obtain ⟨o1, o2⟩ := Bool.and_eq_true_iff.mp ok
        obtain ⟨o2, o3⟩ := Bool.and_eq_true_iff.mp o2
        exact ⟨i, j, rfl, rfl, ⟨of_decide_eq_true o1, of_decide_eq_true o2, of_decide_eq_true o3⟩, q g _ H (.refl _) R (.int _)⟩
      · rw [if_neg ok] at hz; cases hz
    | _ => cases hz
  | _ => cases hz
def opNeg (_ : Hs) : D → Option D
  | .int i => some (.int (-i))
  | _ => none
theorem o_neg : Op1 X c (unaryOp .USub) opNeg := .of un_neg fun g H h x d z Q R rx hz q => by
  cases d with
  | int i =>
    cases rx
    cases hz
    exact ⟨i, rfl, q g _ H (.refl _) R (.int _)⟩
  | _ => cases hz
/-! ### operators in place -/
def opIadd (h : Hs) (d e : D) : Option D := match d, e with
  | .int i, .int j => some (.int (i + j))
  | .str a, .str b => if a.length + b.length ≤ LIM then some (.str (a ++ b)) else none
  | _, _ => none
theorem o_iadd : Op2 X c (inplaceOp .Add) opIadd := .of (iop_add.or iop_add_str) fun g H h x y d e z Q R rx ry hz q => by
  cases d with
  | int i =>
    cases e with
    | int j =>
      cases rx
      cases ry
      cases hz
      exact .inl ⟨i, j, rfl, rfl, q g _ H (.refl _) R (.int _)⟩
    | _ => cases hz
  | str a =>
    cases e with
    | str b =>
      cases rx
      cases ry
      unfold opIadd at hz
      dsimp only at hz
      by_cases hl : a.length + b.length ≤ LIM
      · rw [if_pos hl] at hz
        cases hz
        exact .inr ⟨_, _, rfl, rfl, by rw [sOf_len, sOf_len, lim_eq]; exact hl, by rw [sOf_append]; exact q g _ H (.refl _) R (.str _)⟩
      · rw [if_neg hl] at hz; cases hz
    | _ => cases hz
  | _ => cases hz
theorem o_isub : Op2 X c (inplaceOp .Sub) (opI2 fun i j => .int (i - j)) := o_I2 iop_sub fun _ _ _ => .int _
theorem o_ifdiv : Op2 X c (inplaceOp .FloorDiv) opFdiv := o_fdiv' iop_fdivW
end
end Pi
end
section
set_option maxRecDepth 100000
set_option autoImplicit false
/-! Pi7: methods of built-in types, f-strings. -/
namespace Pi
open PySem PySem.Spec PyProof.Rows L2

section
variable {X : Cx} {c : Cn} {W : WX}
/-- o.m(..) of a built-in type T: what the receiver must be, what comes -/
structure MtI (X : Cx) (c : Cn) (T id : String) (ty : Hs → D → Bool) (op : Hs → D → List D → R D) : Prop where
  rule : ∃ r : V → List V → Hp → VK → Prop, MtR X id r ∧ ∀ (g : G) (H : Hp) (h : Hs) (x : V) (xs : List V) (d : D) (ds : List D) (Q : VK) (Wx : XK), Rel c g H h → Rep c g x d → RepL c g xs ds → Pst c g Q Wx (op h d ds) → r x xs H Q
  ty : ∀ (g : G) (H : Hp) (h : Hs) (x : V) (d : D), Rel c g H h → Rep c g x d → ty h d = true → tyV X.K T x H
def cMt (ty : Hs → D → Bool) (op : Hs → D → List D → R D) (o : IE) (a : IA) : IE := fun e h => (o e h).bind fun d h1 => match ty h1 d with
  | true => (a e h1).bind fun ds h2 => op h2 d ds
  | false => .bad
section
variable {o e : Expr} {es : List Expr} {co : IE} {ca : IA} {name : Str} {apos cpos : Pos} {T id : String} {ty : Hs → D → Bool} {op : Hs → D → List D → R D}
theorem pi_mt (M : MtI X c T id ty op) (pa : PlainAttrs T) (slot : Slot T name id) (hty : typeOf (.builtin id) = pure (.type "method_descriptor")) (ho : PE X o (tI c W co)) (ha : PA X (e :: es) (tA c W ca))
    (hbase : attributeBase o name X.env (eval o X.env) = eval o X.env := by rfl)
    (hfew : ((backTo cpos (starEach (e :: es) X.env)).all (fun x => !x.1) && (backToKw cpos (keywordEach [] X.env)).all (fun x => x.1.isSome)
      && decide ((e :: es).length + ([] : List Keyword).length + (if ([] : List Keyword).isEmpty then 0 else 1) < 30)) = true := by rfl)
    (hline : (apos.endLine == cpos.line) = true := by rfl) (hs : starEach (e :: es) X.env = (false, eval e X.env) :: starEach es X.env := by rfl) (hplain : (backTo cpos (starEach es X.env)).any (·.1) = false := by rfl) :
    PE X (.Call (.Attribute o name apos) (e :: es) [] cpos) (tI c W (cMt ty op co ca)) := by
  obtain ⟨r, hm, hr⟩ := M.rule
  refine (pe_bm pa slot hty hm ho ha hbase hfew hline hs hplain).imp fun σ H Q ⟨g, ev, h, R, E, p⟩ => ?_
  refine ⟨g, ev, h, R, E, bind_EE (r := co ev h) p fun d h1 g1 v H1 l1 R1 r1 p1 => ?_⟩
  cases q : ty h1 d with
  | false => rw [q] at p1; exact p1.elim
  | true =>
    rw [q] at p1
    refine ⟨M.ty g1 H1 h1 v d R1 r1 q, g1, ev, h1, R1, E.mono l1, bind_AE (r := ca ev h1) p1 fun ds h2 g2 vs H2 l2 R2 r2 p2 => ?_⟩
    exact hr g2 H2 h2 v vs d ds Q _ R2 (r1.mono l2) r2 p2
theorem pi_mt0 (M : MtI X c T id ty op) (pa : PlainAttrs T) (slot : Slot T name id) (hty : typeOf (.builtin id) = pure (.type "method_descriptor")) (ho : PE X o (tI c W co))
    (hbase : attributeBase o name X.env (eval o X.env) = eval o X.env := by rfl) (hline : (apos.endLine == cpos.line) = true := by rfl) : PE X (.Call (.Attribute o name apos) [] [] cpos) (tI c W (cMt ty op co aNil)) := by
  obtain ⟨r, hm, hr⟩ := M.rule
  refine (pe_bm0 pa slot hty hm ho hbase hline).imp fun σ H Q ⟨g, ev, h, R, E, p⟩ => ?_
  refine ⟨g, ev, h, R, E, bind_EE (r := co ev h) p fun d h1 g1 v H1 l1 R1 r1 p1 => ?_⟩
  cases q : ty h1 d with
  | false => rw [q] at p1; exact p1.elim
  | true =>
    rw [q] at p1
    exact ⟨M.ty g1 H1 h1 v d R1 r1 q, hr g1 H1 h1 v [] d [] Q _ R1 r1 .nil p1⟩
end
def isLs (h : Hs) (d : D) : Bool := match lk h d with
  | .lst _ => true
  | _ => false
def isSt (_ : Hs) : D → Bool
  | .str _ => true
  | _ => false
theorem isLs_ty {g : G} {H : Hp} {h : Hs} {x : V} {d : D} (R : Rel c g H h) (r : Rep c g x d) (e : isLs h d = true) : tyV X.K "list" x H := by
  have vw := lk_vw R r
  unfold isLs at e
  generalize lk h d = w at vw e
  cases w with
  | lst ds =>
    obtain ⟨a, xs, rfl, hH, rl⟩ := vw
    exact .inl ⟨rfl, xs, SqL.of hH⟩
  | _ => cases e
theorem isSt_ty {g : G} {H : Hp} {h : Hs} {x : V} {d : D} (R : Rel c g H h) (r : Rep c g x d) (e : isSt h d = true) : tyV X.K "str" x H := by
  cases r with
  | str cs => exact (rfl : "str" = "str")
  | _ => cases e
/-- a live list -/
def liveL (h : Hs) : D → Option (Nat × List D)
  | .ref n => match h[n]? with
    | some (.lst ds) => some (n, ds)
    | _ => none
  | _ => none
theorem liveL_ok {g : G} {H : Hp} {h : Hs} {x : V} {d : D} {n : Nat} {ds : List D} (R : Rel c g H h) (r : Rep c g x d) (e : liveL h d = some (n, ds)) :
    ∃ a xs, x = .ref a ∧ g.m[n]? = some a ∧ g.F a = none ∧ H a = some (.lst xs) ∧ RepL c g xs ds := by
  cases d with
  | ref m =>
    cases r with
    | @ref _ a hm =>
      unfold liveL at e
      dsimp only at e
      cases q : h[m]? with
      | none => rw [q] at e; cases e
      | some y =>
        rw [q] at e
        cases y with
        | lst es =>
          cases e
          have ok := R.ent n a _ hm q
          cases ok with
          | lst f hH rl => exact ⟨a, _, rfl, hm, f, hH, rl⟩
        | _ => cases e
  | _ => cases e
def opAppend (h : Hs) (d : D) : List D → R D
  | [y] => match liveL h d with
    | some (n, ds) => if ds.length < LIM then .ok .non (h.set n (.lst (ds ++ [y]))) else .bad
    | none => .bad
  | _ => .bad
theorem mi_append : MtI X c "list" "list.append" isLs opAppend := by
  refine ⟨⟨rAppend, mt_append, fun g H h x xs d ds Q Wx R r rs p => ?_⟩, fun g H h x d R r e => isLs_ty R r e⟩
  rcases ds with _ | ⟨y, _ | ⟨y2, ds⟩⟩
  · exact p.elim
  · obtain ⟨v, rfl, rv⟩ := repL1 rs
    unfold opAppend at p
    dsimp only at p
    cases q : liveL h d with
    | none => rw [q] at p; exact p.elim
    | some nd =>
      obtain ⟨n, es⟩ := nd
      rw [q] at p
      dsimp only at p
      obtain ⟨a, ys, rfl, hm, hF, hH, rl⟩ := liveL_ok R r q
      by_cases hl : es.length < LIM
      · rw [if_pos hl] at p
        refine ⟨a, ys, v, rfl, rfl, hH, by rw [rl.length, lim_eq]; exact hl, ?_⟩
        exact p g _ _ (.refl _) (R.write hm hF (o := .lst (ys ++ [v])) (.lst hF upd_same (rl.append (.cons rv .nil)))) .non
      · rw [if_neg hl] at p; exact p.elim
  · exact p.elim
def opPop (h : Hs) (d : D) : List D → R D
  | [] => match liveL h d with
    | some (n, ds) => match ds[ds.length - 1]? with
      | some y => .ok y (h.set n (.lst ds.dropLast))
      | none => .bad
    | none => .bad
  | _ => .bad
theorem RepL.dropLast {g : G} {xs : List V} {ds : List D} (r : RepL c g xs ds) : RepL c g xs.dropLast ds.dropLast := by
  rw [List.dropLast_eq_take, List.dropLast_eq_take, r.length]
  exact r.take _
theorem mi_pop : MtI X c "list" "list.pop" isLs opPop := by
  refine ⟨⟨rPop, mt_pop, fun g H h x xs d ds Q Wx R r rs p => ?_⟩, fun g H h x d R r e => isLs_ty R r e⟩
  cases ds with
  | cons y ds => exact p.elim
  | nil =>
    cases rs
    unfold opPop at p
    dsimp only at p
    cases q : liveL h d with
    | none => rw [q] at p; exact p.elim
    | some nd =>
      obtain ⟨n, es⟩ := nd
      rw [q] at p
      dsimp only at p
      obtain ⟨a, ys, rfl, hm, hF, hH, rl⟩ := liveL_ok R r q
      cases q2 : es[es.length - 1]? with
      | none => rw [q2] at p; exact p.elim
      | some y =>
        rw [q2] at p
        obtain ⟨v, hv, rv⟩ := rl.get q2
        refine ⟨a, ys, v, rfl, rfl, hH, by rw [rl.length]; exact hv, ?_⟩
        exact p g _ _ (.refl _) (R.write hm hF (o := .lst ys.dropLast) (.lst hF upd_same rl.dropLast)) rv
/-- texts of a list -/
def strsOf : List D → Option (List (List Nat))
  | [] => some []
  | .str s :: ds => (strsOf ds).map (s :: ·)
  | _ :: _ => none
theorem strsOf_rep {g : G} : ∀ {ds : List D} {xs : List V} {ss : List (List Nat)}, RepL c g xs ds → strsOf ds = some ss → xs = (ss.map sOf).map V.str
  | [], _, ss, r, e => by
    cases r
    cases e
    rfl
  | d :: ds, _, ss, r, e => by
    cases r with
    | @cons v _ vs _ r1 r2 =>
      cases d with
      | str b =>
        cases r1
        have e' : (strsOf ds).map (b :: ·) = some ss := e
        cases q : strsOf ds with
        | none => rw [q] at e'; cases e'
        | some cs =>
          rw [q] at e'
          cases e'
          rw [strsOf_rep r2 q]
          rfl
      | _ => cases e
theorem tl_sOf (cs : List Nat) : TL.tl (sOf cs) = cs := by
  first
    | rfl
    | simp [TL.tl]
theorem join_sOf (sep : List Nat) (ss : List (List Nat)) : Txt.join (sOf sep) (ss.map sOf) = sOf (TL.joinL sep ss) := by
  have e : TL.tl (Txt.join (sOf sep) (ss.map sOf)) = TL.joinL sep ss := by
    rw [TL.join_eq, TL.tl_join, tl_sOf, List.map_map]
    have e2 : (TL.tl ∘ sOf) = id := by funext cs; exact tl_sOf cs
    rw [e2, List.map_id]
  rw [← e, sOf]
def sumLen (ss : List (List Nat)) : Nat := (ss.map List.length).sum
def opJoin (h : Hs) (d : D) : List D → R D
  | [y] => match d, lk h y with
    | .str sep, .lst ds => match strsOf ds with
      | some ss => if sumLen ss + ss.length * sep.length ≤ LIM then .ok (.str (TL.joinL sep ss)) h else .bad
      | none => .bad
    | _, _ => .bad
  | _ => .bad
theorem mi_join : MtI X c "str" "str.join" isSt opJoin := by
  refine ⟨⟨_, mt_join, fun g H h x xs d ds Q Wx R r rs p => ?_⟩, fun g H h x d R r e => isSt_ty R r e⟩
  rcases ds with _ | ⟨y, _ | ⟨y2, ds⟩⟩
  · exact p.elim
  · obtain ⟨v, rfl, rv⟩ := repL1 rs
    have vw := lk_vw R rv
    cases d with
    | str sep =>
      cases r
      unfold opJoin at p
      dsimp only at p
      generalize lk h y = w at vw p
      cases w with
      | lst ds =>
        obtain ⟨a, ys, rfl, hH, rl⟩ := vw
        dsimp only at p
        cases q : strsOf ds with
        | none => rw [q] at p; exact p.elim
        | some ss =>
          rw [q] at p
          dsimp only at p
          by_cases hl : sumLen ss + ss.length * sep.length ≤ LIM
          · rw [if_pos hl] at p
            refine ⟨_, a, ss.map sOf, rfl, rfl, .inl (by rw [← strsOf_rep rl q]; exact SqL.of hH), ?_, ?_⟩
            · have e1 : ((ss.map sOf).map (·.length)) = ss.map List.length := by
                rw [List.map_map]
                exact List.map_congr_left fun s _ => sOf_len s
              rw [e1, List.length_map, sOf_len]
              exact hl
            · rw [join_sOf]
              exact p g _ H (.refl _) R (.str _)
          · rw [if_neg hl] at p; exact p.elim
      | _ => exact p.elim
    | _ => exact p.elim
  · cases d <;> exact p.elim
/-- a place of a text in another one -/
def opIndexS (h : Hs) (d : D) : List D → R D
  | [.str b] => match d with
    | .str a => match Builtin.Str.occurrences (sOf a) (sOf b) 0 a.length 1 with
      | i :: _ => .ok (.int i) h
      | [] => .bad
    | _ => .bad
  | _ => .bad
theorem mt_indexS : MtR X "str.index" (fun x xs H Q => ∃ (a b : Str) (i : Nat) (rest : List Nat), x = .str a ∧ xs = [.str b] ∧ Builtin.Str.occurrences a b 0 a.length 1 = i :: rest ∧ Q (.int i) H) := by
  rintro pins s σ H x xs v us Q I rx rs ⟨a, b, i, rest, rfl, rfl, q, w⟩
  obtain ⟨t, rfl⟩ := rx
  cases rs with
  | cons r1 rs =>
    cases rs
    obtain ⟨u, rfl⟩ := r1
    exact PySem.SC.index q ⟨.int (i : Nat), H, I.tok _, ⟨_, rfl⟩, w⟩
theorem mi_indexS : MtI X c "str" "str.index" isSt opIndexS := by
  refine ⟨⟨_, mt_indexS, fun g H h x xs d ds Q Wx R r rs p => ?_⟩, fun g H h x d R r e => isSt_ty R r e⟩
  rcases ds with _ | ⟨y, _ | ⟨y2, ds⟩⟩
  · exact p.elim
  · obtain ⟨v, rfl, rv⟩ := repL1 rs
    cases y with
    | str b =>
      cases rv
      cases d with
      | str a =>
        cases r
        unfold opIndexS at p
        dsimp only at p
        cases q : Builtin.Str.occurrences (sOf a) (sOf b) 0 a.length 1 with
        | nil => rw [q] at p; exact p.elim
        | cons i rest =>
          rw [q] at p
          exact ⟨_, _, i, rest, rfl, rfl, by rw [sOf_len]; exact q, p g _ H (.refl _) R (.int _)⟩
      | _ => exact p.elim
    | _ => exact p.elim
  · cases y <;> exact p.elim
/-- a text begins with another one at a place -/
def opStartsAt (h : Hs) (d : D) : List D → R D
  | [.str b, .int i] => match d with
    | .str a => .ok (.bl (Txt.startswith3 (sOf a) (sOf b) i)) h
    | _ => .bad
  | _ => .bad
theorem mi_startsAt : MtI X c "str" "str.startswith" isSt opStartsAt := by
  refine ⟨⟨_, mt_startswith3, fun g H h x xs d ds Q Wx R r rs p => ?_⟩, fun g H h x d R r e => isSt_ty R r e⟩
  rcases ds with _ | ⟨y, _ | ⟨y2, _ | ⟨y3, ds⟩⟩⟩
  · exact p.elim
  · cases y <;> exact p.elim
  · obtain ⟨v, u, rfl, rv, ru⟩ := repL2 rs
    cases y with
    | str b =>
      cases y2 with
      | int i =>
        cases rv
        cases ru
        cases d with
        | str a =>
          cases r
          exact ⟨_, _, i, rfl, rfl, p g _ H (.refl _) R (.bl _)⟩
        | _ => exact p.elim
      | _ => exact p.elim
    | _ => exact p.elim
  · cases y <;> cases y2 <;> exact p.elim

/-! ### f-strings -/
/-- a part {e} -/
def cFmt (a : IE) : IE := fun e h => (a e h).bind fun d h1 => match d with
  | .str cs => if cs.length ≤ LIM then .ok (.str cs) h1 else .bad
  | .int i => if i.natAbs.log2 < 1920 then .ok (.str (figs i)) h1 else .bad
  | _ => .bad
theorem pi_fmt {e : Expr} {ce : IE} {pos : Pos} (he : PE X e (tI c W ce)) : PE X (.FormattedValue e (-1) none pos) (tI c W (cFmt ce)) := by
  refine (pe_fmt he).imp fun σ H Q ⟨g, ev, h, R, E, p⟩ => ?_
  refine ⟨g, ev, h, R, E, bind_EE (r := ce ev h) p fun d h1 g1 v H1 l1 R1 r1 p1 => ?_⟩
  cases d with
  | str cs =>
    cases r1
    dsimp only at p1
    by_cases hl : cs.length ≤ LIM
    · rw [if_pos hl] at p1
      exact .inl ⟨_, rfl, by rw [sOf_len, lim_eq]; exact hl, p1 g1 _ H1 (.refl _) R1 (.str _)⟩
    · rw [if_neg hl] at p1; exact p1.elim
  | int i =>
    cases r1
    dsimp only at p1
    by_cases hl : i.natAbs.log2 < 1920
    · rw [if_pos hl] at p1
      exact .inr ⟨i, rfl, hl, by rw [figs_str]; exact p1 g1 _ H1 (.refl _) R1 (.str _)⟩
    · rw [if_neg hl] at p1; exact p1.elim
  | _ => exact p1.elim
/-- the parts of an f-string, one behind the other -/
def cJs : List IE → List Nat → IE
  | [], acc => fun _ h => .ok (.str acc) h
  | a :: as, acc => fun e h => (a e h).bind fun d h1 => match d with
    | .str cs => if acc.length + cs.length ≤ LIM then cJs as (acc ++ cs) e h1 else .bad
    | _ => .bad
inductive PJs (X : Cx) (c : Cn) (W : WX) : List Expr → List IE → Prop
  | nil : PJs X c W [] []
  | cons {e : Expr} {a : IE} {es : List Expr} {as : List IE} : PE X e (tI c W a) → PJs X c W es as → PJs X c W (e :: es) (a :: as)
theorem PJs.pj {es : List Expr} {as : List IE} (h : PJs X c W es as) : PJ X es (as.map (tI c W)) := by
  induction h with
  | nil => exact .nil
  | cons h _ ih => exact .cons h ih
theorem tJs_of {σ : L2.St} {Q : VK} : ∀ (as : List IE) (acc : List Nat) (H : Hp) (g : G) (e : Lv) (h : Hs), Rel c g H h → EnvR c g σ e → Pst c g Q (fun cls dx H => W cls dx σ H) (cJs as acc e h) → tJs (as.map (tI c W)) (sOf acc) σ H fun out H1 => Q (.str out) H1
  | [], acc, H, g, e, h, R, E, p => p g _ H (.refl _) R (.str _)
  | a :: as, acc, H, g, e, h, R, E, p => by
    refine ⟨g, e, h, R, E, bind_EE (r := a e h) p fun d h1 g1 v H1 l1 R1 r1 p1 => ?_⟩
    cases d with
    | str cs =>
      cases r1
      dsimp only at p1
      by_cases hl : acc.length + cs.length ≤ LIM
      · rw [if_pos hl] at p1
        refine ⟨_, rfl, ?_, ?_⟩
        · rw [sOf_append, sOf_len, List.length_append, lim_eq]; exact hl
        · rw [sOf_append]
          exact tJs_of as (acc ++ cs) H1 g1 e h1 R1 (E.mono l1) p1
      · rw [if_neg hl] at p1; exact p1.elim
    | _ => exact p1.elim
theorem pi_js {v1 v2 : Expr} {rest : List Expr} {as : List IE} {pos : Pos} (h : PJs X c W (v1 :: v2 :: rest) as) : PE X (.JoinedStr (v1 :: v2 :: rest) pos) (tI c W (cJs as [])) := by
  refine (pe_joined h.pj).imp fun σ H Q ⟨g, ev, h, R, E, p⟩ => ?_
  have q := tJs_of as [] H g ev h R E p
  exact q
end
end Pi
end
section
set_option maxRecDepth 100000
set_option autoImplicit false
/-! Pi8: statements. -/
namespace Pi
open PySem PySem.Spec PyProof.Rows L2

section
variable {X : Cx} {c : Cn} {W : WX}

/-! ### from steps to statements -/
def R.toS {α : Type} (r : R α) (e : Lv) (f : α → Hs → RS) : RS := match r with
  | .ok a h => f a h
  | .exc k p h => .exc k p e h
  | .bad => .bad
theorem toS_E {g : G} {De : Ends} {σ : L2.St} {e : Lv} {r : R D} {f : D → Hs → RS} {Q : VK} (E : EnvR c g σ e) (hp : PstS c g De W (r.toS e f)) (hQ : ∀ d h g' v H, g.le g' → Rel c g' H h → Rep c g' v d → PstS c g' De W (f d h) → Q v H) :
    Pst c g Q (fun cls dx H => W cls dx σ H) r := by
  cases r with
  | ok d h => exact fun g' v H l R r => hQ d h g' v H l R r (PstS.le hp l)
  | exc k p h => exact fun g' H cls dx l R x => hp g' σ H cls dx l R (E.mono l) x
  | bad => exact hp
theorem toS_T {g : G} {De : Ends} {σ : L2.St} {e : Lv} {r : R Bool} {f : Bool → Hs → RS} {Q : Bool → Hp → Prop} (E : EnvR c g σ e) (hp : PstS c g De W (r.toS e f)) (hQ : ∀ d h g' H, g.le g' → Rel c g' H h → PstS c g' De W (f d h) → Q d H) :
    PstT c g Q (fun cls dx H => W cls dx σ H) r := by
  cases r with
  | ok d h => exact fun g' H l R => hQ d h g' H l R (PstS.le hp l)
  | exc k p h => exact fun g' H cls dx l R x => hp g' σ H cls dx l R (E.mono l) x
  | bad => exact hp
theorem toS_A {g : G} {De : Ends} {σ : L2.St} {e : Lv} {r : R (List D)} {f : List D → Hs → RS} {Q : List V → Hp → Prop} (E : EnvR c g σ e) (hp : PstS c g De W (r.toS e f)) (hQ : ∀ ds h g' vs H, g.le g' → Rel c g' H h → RepL c g' vs ds → PstS c g' De W (f ds h) → Q vs H) :
    PstA c g Q (fun cls dx H => W cls dx σ H) r := by
  cases r with
  | ok d h => exact fun g' v H l R r => hQ d h g' v H l R r (PstS.le hp l)
  | exc k p h => exact fun g' H cls dx l R x => hp g' σ H cls dx l R (E.mono l) x
  | bad => exact hp

/-! ### blocks -/
def sNil : IS := fun e h => .next e h
def RS.bind (r : RS) (f : IS) : RS := match r with
  | .next e h => f e h
  | r => r
def sSeq (a b : IS) : IS := fun e h => (a e h).bind b
theorem PstS.bind {g : G} {De : Ends} {r : RS} {f : IS} {N : L2.St → Hp → Prop} (hp : PstS c g De W (r.bind f)) (hN : ∀ e h g' σ H, g.le g' → Rel c g' H h → EnvR c g' σ e → PstS c g' De W (f e h) → N σ H) :
    PstS c g { De with nx := N } W r := by
  cases r with
  | next e h => exact fun g' σ H l R E => hN e h g' σ H l R E (PstS.le hp l)
  | ret d h => exact hp
  | brk e h => exact hp
  | cnt e h => exact hp
  | exc k p e h => exact hp
  | bad => exact hp
section
variable {st : Stmt} {rest : List Stmt} {f k : IS} {e : Expr} {ce : IE} {pos : Pos}
theorem ss_nil : PSs X [] (tS c W sNil) := pss_nil.imp fun De σ H ⟨g, e, h, R, E, p⟩ => p g σ H (.refl g) R E
theorem ss_cons (h1 : PS X st (tS c W f)) (h2 : PSs X rest (tS c W k)) : PSs X (st :: rest) (tS c W (sSeq f k)) := by
  refine (pss_cons h1 h2).imp fun De σ H ⟨g, e, h, R, E, p⟩ => ?_
  exact ⟨g, e, h, R, E, PstS.bind (r := f e h) p fun e1 h1 g1 σ1 H1 l R1 E1 p1 => ⟨g1, e1, h1, R1, E1, p1⟩⟩
theorem ss_one (h1 : PS X st (tS c W f)) : PSs X [st] (tS c W f) := pss_one h1
def sPass : IS := fun e h => .next e h
theorem s_pass : PS X (.Pass pos) (tS c W sPass) := ps_pass.imp fun De σ H ⟨g, e, h, R, E, p⟩ => p g σ H (.refl g) R E
def sBrk : IS := fun e h => .brk e h
theorem s_brk : PS X (.Break pos) (tS c W sBrk) := ps_break.imp fun De σ H ⟨g, e, h, R, E, p⟩ => p g σ H (.refl g) R E
def sCnt : IS := fun e h => .cnt e h
theorem s_cnt : PS X (.Continue pos) (tS c W sCnt) := ps_continue.imp fun De σ H ⟨g, e, h, R, E, p⟩ => p g σ H (.refl g) R E
def sExpr (a : IE) : IS := fun e h => (a e h).toS e fun _ h1 => .next e h1
theorem s_expr (he : PE X e (tI c W ce)) (hs : swapsWith e none pos.line X.env = pure false := by rfl) : PS X (.Expr e pos) (tS c W (sExpr ce)) := by
  refine (ps_expr he hs).imp fun De σ H ⟨g, e, h, R, E, p⟩ => ?_
  exact ⟨g, e, h, R, E, toS_E E p fun d h1 g1 v H1 l R1 r1 p1 => p1 g1 σ H1 (.refl _) R1 (E.mono l)⟩
def sRet (a : IE) : IS := fun e h => (a e h).toS e fun d h1 => .ret d h1
theorem s_ret (he : PE X e (tI c W ce)) : PS X (.Return (some e) pos) (tS c W (sRet ce)) := by
  refine (ps_ret he).imp fun De σ H ⟨g, e, h, R, E, p⟩ => ?_
  exact ⟨g, e, h, R, E, toS_E E p fun d h1 g1 v H1 l R1 r1 p1 => p1 g1 v H1 (.refl _) R1 r1⟩
def sRetN : IS := fun _ h => .ret .non h
theorem s_retN : PS X (.Return none pos) (tS c W sRetN) := ps_retN.imp fun De σ H ⟨g, e, h, R, E, p⟩ => p g .non H (.refl g) R .non
def sIf (t : IT) (a b : IS) : IS := fun e h => (t e h).toS e fun k h1 => match k with
  | true => a e h1
  | false => b e h1
theorem s_if {t : Expr} {a b : List Stmt} {ct : IT} {fa fb : IS} (ht : PT X t (tT c W ct)) (ha : PSs X a (tS c W fa)) (hb : PSs X b (tS c W fb)) : PS X (.If t a b pos) (tS c W (sIf ct fa fb)) := by
  refine (ps_if ht ha hb).imp fun De σ H ⟨g, e, h, R, E, p⟩ => ?_
  refine ⟨g, e, h, R, E, toS_T E p fun k h1 g1 H1 l R1 p1 => ?_⟩
  cases k with
  | true => rw [if_pos rfl]; exact ⟨g1, e, h1, R1, E.mono l, p1⟩
  | false => rw [if_neg Bool.false_ne_true]; exact ⟨g1, e, h1, R1, E.mono l, p1⟩
/-- code that is not come to -/
def sBad : IS := fun _ _ => .bad
theorem s_bad : PS X st (tS c W sBad) := ps_never.imp fun De σ H ⟨g, e, h, R, E, p⟩ => p
theorem ss_bad {sts : List Stmt} : PSs X sts (tS c W sBad) := pss_never.imp fun De σ H ⟨g, e, h, R, E, p⟩ => p
end

/-! ### targets -/
abbrev TGI := D → Lv → Hs → Option Lv
abbrev TGsI := List D → Lv → Hs → Option Lv
/-- outside the slots ws all is as it was -/
def Kp (ws : List Nat) (σ σ' : L2.St) : Prop := σ'.length = σ.length ∧ ∀ i, i ∉ ws → σ'[i]? = σ[i]?
theorem Kp.refl (ws : List Nat) (σ : L2.St) : Kp ws σ σ := ⟨rfl, fun _ _ => rfl⟩
def gI (c : Cn) (ws : List Nat) (t : TGI) : TG := fun v σ H Q => ∃ g d e h e', Rel c g H h ∧ EnvR c g σ e ∧ Rep c g v d ∧ t d e h = some e' ∧ ∀ σ', EnvR c g σ' e' → Kp ws σ σ' → Q σ' H
def gsI (c : Cn) (ws : List Nat) (t : TGsI) : TGs := fun vs σ H Q => ∃ g ds e h e', Rel c g H h ∧ EnvR c g σ e ∧ RepL c g vs ds ∧ t ds e h = some e' ∧ ∀ σ', EnvR c g σ' e' → Kp ws σ σ' → Q σ' H
theorem PG.imp {tg : Expr} {t t' : TG} (h : PG X tg t) (i : ∀ v σ H Q, t' v σ H Q → t v σ H Q) : PG X tg t' := ⟨fun pins s σ H v u Q I r q => h.run pins s σ H v u Q I r (i v σ H Q q)⟩
theorem PGs.imp {tg : List Expr} {t t' : TGs} (h : PGs X tg t) (i : ∀ v σ H Q, t' v σ H Q → t v σ H Q) : PGs X tg t' := ⟨fun pins s σ H v u Q I r q => h.run pins s σ H v u Q I r (i v σ H Q q)⟩
def gNm (i : Nat) : TGI := fun d e _ => some (e.set i (some d))
def gNilI : TGsI := fun ds e _ => match ds with
  | [] => some e
  | _ => none
def gConsI (t : TGI) (u : TGsI) : TGsI := fun ds e h => match ds with
  | d :: r => (t d e h).bind fun e' => u r e' h
  | [] => none
def seqOf (h : Hs) (d : D) : Option (List D) := match lk h d with
  | .tup ds => some ds
  | .lst ds => some ds
  | _ => none
def gTupI (n : Nat) (u : TGsI) : TGI := fun d e h => (seqOf h d).bind fun ds => if ds.length = n then u ds e h else none
section
variable {pos : Pos}
theorem g_nm {i : Nat} {x : Str} (nd : X.N.Nodup) (hi : X.N[i]? = some x := by rfl) (hx : Loc X.env.scope x := by first | exact Or.inl rfl | exact Or.inr rfl) (hf : X.fn x = true ∨ X.env.scope.names.lookup x = some .local := by first | exact .inl rfl | exact .inr rfl) : PG X (.Name x pos) (gI c [i] (gNm i)) := by
  refine PG.imp (pg_name nd hi hx hf) fun v σ H Q ⟨g, d, e, h, e', R, E, r, ht, q⟩ => ?_
  cases ht
  refine q _ (E.set i r) ⟨by simp, fun j hj => ?_⟩
  rw [List.getElem?_set_ne]
  rintro rfl
  exact hj (by simp)
theorem gs_nil : PGs X [] (gsI c [] gNilI) := by
  refine PGs.imp pgs_nil fun vs σ H Q ⟨g, ds, e, h, e', R, E, r, ht, q⟩ => ?_
  cases r with
  | nil => cases ht; exact ⟨rfl, q _ E (.refl _ _)⟩
  | cons _ _ => cases ht
theorem gs_cons {e : Expr} {es : List Expr} {t : TGI} {u : TGsI} {w1 w2 : List Nat} (h1 : PG X e (gI c w1 t)) (h2 : PGs X es (gsI c w2 u))
    (hs : (assignEach (e :: es) X.env).map (·.2) = assign e X.env :: (assignEach es X.env).map (·.2) := by rfl) : PGs X (e :: es) (gsI c (w1 ++ w2) (gConsI t u)) := by
  refine PGs.imp (pgs_cons h1 h2 hs) fun vs σ H Q ⟨g, ds, e, h, e', R, E, r, ht, q⟩ => ?_
  cases r with
  | nil => cases ht
  | @cons v d vs ds r rs =>
    unfold gConsI at ht
    dsimp only at ht
    cases ht1 : t d e h with
    | none => rw [ht1] at ht; cases ht
    | some e1 =>
      rw [ht1] at ht
      refine ⟨v, vs, rfl, g, d, e, h, e1, R, E, r, ht1, fun σ' E' K1 => ⟨g, ds, e1, h, e', R, E', rs, ht, fun σ2 E2 K2 => q σ2 E2 ⟨K2.1.trans K1.1, fun i hi => ?_⟩⟩⟩
      rw [List.mem_append, not_or] at hi
      exact (K2.2 i hi.2).trans (K1.2 i hi.1)
/-- a rule of one of two kinds: by what the value is -/
theorem PG.or {tg : Expr} {t t' : TG} (h : PG X tg t) (h' : PG X tg t') : PG X tg (fun v σ H Q => t v σ H Q ∨ t' v σ H Q) := ⟨fun pins s σ H v u Q I r q => q.elim (h.run pins s σ H v u Q I r) (h'.run pins s σ H v u Q I r)⟩
theorem g_tup {es : List Expr} {k n : Nat} {u : TGsI} {ws : List Nat} (hK : X.K = c.K) (hc : X.calm = true) (hg : PGs X es (gsI c ws u)) (hn : (assignEach es X.env).length = n := by rfl) (hst : (assignEach es X.env).findIdx? (·.1) = none := by rfl) :
    PG X (.Tuple es k pos) (gI c ws (gTupI n u)) := by
  refine PG.imp (PG.or (pg_tup hc hg hn hst) (pg_lst hc hg hn hst)) fun v σ H Q ⟨g, d, e, h, e', R, E, r, ht, q⟩ => ?_
  unfold gTupI seqOf at ht
  have vw := lk_vw R r
  generalize lk h d = w at vw ht
  cases w with
  | tup ds =>
    obtain ⟨a, xs, rfl, hH, rl⟩ := vw
    dsimp only [Option.bind] at ht
    by_cases hl : ds.length = n
    · rw [if_pos hl] at ht
      exact .inl ⟨a, xs, rfl, by rw [hK]; exact hH, by rw [rl.length]; exact hl, g, ds, e, h, e', R, E, rl, ht, q⟩
    · rw [if_neg hl] at ht; cases ht
  | lst ds =>
    obtain ⟨a, xs, rfl, hH, rl⟩ := vw
    dsimp only [Option.bind] at ht
    by_cases hl : ds.length = n
    · rw [if_pos hl] at ht
      exact .inr ⟨a, xs, rfl, SqL.of hH, by rw [rl.length]; exact hl, g, ds, e, h, e', R, E, rl, ht, q⟩
    · rw [if_neg hl] at ht; cases ht
  | _ => cases ht

/-! ### assignments -/
def sAsg (t : TGI) (a : IE) : IS := fun e h => (a e h).toS e fun d h1 => match t d e h1 with
  | some e' => .next e' h1
  | none => .bad
theorem s_asg {tg e : Expr} {ce : IE} {t : TGI} {ws : List Nat} (he : PE X e (tI c W ce)) (hg : PG X tg (gI c ws t)) (hs : swapsWithSole [tg] e pos.line X.env = pure false := by rfl) (hw : swappedStores [tg] e X.env = pure none := by rfl)
    (h1 : (assignEach [tg] X.env).map (·.2) = [assign tg X.env] := by rfl) : PS X (.Assign [tg] e pos) (tS c W (sAsg t ce)) := by
  refine (ps_asg he hg hs hw h1).imp fun De σ H ⟨g, e, h, R, E, p⟩ => ?_
  refine ⟨g, e, h, R, E, toS_E E p fun d h1 g1 v H1 l R1 r1 p1 => ?_⟩
  cases q : t d e h1 with
  | none => rw [q] at p1; exact p1.elim
  | some e' =>
    rw [q] at p1
    exact ⟨g1, d, e, h1, e', R1, E.mono l, r1, q, fun σ' E' _ => p1 g1 σ' H1 (.refl _) R1 E'⟩
def sSet (i : Nat) (a : IE) : IS := fun e h => (a e h).toS e fun d h1 => .next (e.set i (some d)) h1
theorem s_set {i : Nat} {x : Str} {e : Expr} {ce : IE} {pos' : Pos} (nd : X.N.Nodup) (he : PE X e (tI c W ce)) (hi : X.N[i]? = some x := by rfl) (hx : Loc X.env.scope x := by first | exact Or.inl rfl | exact Or.inr rfl)
    (hs : swapsWith e (some (.Name x pos')) pos.line X.env = pure false := by rfl) (hf : X.fn x = true ∨ X.env.scope.names.lookup x = some .local := by first | exact .inl rfl | exact .inr rfl) :
    PS X (.Assign [.Name x pos'] e pos) (tS c W (sSet i ce)) := by
  refine (ps_set nd hi hx he hs hf).imp fun De σ H ⟨g, e, h, R, E, p⟩ => ?_
  exact ⟨g, e, h, R, E, toS_E E p fun d h1 g1 v H1 l R1 r1 p1 => p1 g1 _ H1 (.refl _) R1 ((E.mono l).set i r1)⟩
/-- a, b = x, y -/
def sPar (i j : Nat) (a b : IE) : IS := fun e h => (a e h).toS e fun x h1 => (b e h1).toS e fun y h2 => .next ((e.set i (some x)).set j (some y)) h2
theorem s_par {i j : Nat} {x y : Str} {a b : Expr} {ca cb : IE} {px py pt : Pos} {kt k2 pt2} (hc : X.calm = true) (nd : X.N.Nodup) (ha : PE X a (tI c W ca)) (hb : PE X b (tI c W cb)) (hi : X.N[i]? = some x := by rfl) (hj : X.N[j]? = some y := by rfl) (hij : i ≠ j := by decide)
    (hx : X.env.scope.names.lookup x = some .local := by rfl) (hy : X.env.scope.names.lookup y = some .local := by rfl)
    (hs1 : starEach [a, b] X.env = (false, eval a X.env) :: starEach [b] X.env := by rfl) (hs2 : starEach [b] X.env = (false, eval b X.env) :: starEach [] X.env := by rfl)
    (hw : swappedStores [.Tuple [.Name x px, .Name y py] kt pt] (.Tuple [a, b] k2 pt2) X.env = pure (some [x, y]) := by rfl)
    (hs : swapsWithSole [.Tuple [.Name x px, .Name y py] kt pt] (.Tuple [a, b] k2 pt2) pos.line X.env = pure false := by rfl) :
    PS X (.Assign [.Tuple [.Name x px, .Name y py] kt pt] (.Tuple [a, b] k2 pt2) pos) (tS c W (sPar i j ca cb)) := by
  refine (ps_par hc nd hi hj hij hx hy (pa_cons ha (pa_cons hb pa_nil hs2) hs1) hw hs).imp fun De σ H ⟨g, e, h, R, E, p⟩ => ?_
  refine ⟨g, e, h, R, E, toS_E E p fun d h1 g1 v H1 l R1 r1 p1 => ?_⟩
  refine ⟨g1, e, h1, R1, E.mono l, toS_E (E.mono l) p1 fun d2 h2 g2 v2 H2 l2 R2 r2 p2 => ?_⟩
  exact ⟨v, v2, rfl, p2 g2 _ H2 (.refl _) R2 ((((E.mono l).mono l2).set i (r1.mono l2)).set j r2)⟩
/-- a, b, c = x, y, z -/
def sPar3 (i j k : Nat) (a b d : IE) : IS := fun e h => (a e h).toS e fun x h1 => (b e h1).toS e fun y h2 => (d e h2).toS e fun z h3 => .next (((e.set i (some x)).set j (some y)).set k (some z)) h3
theorem s_par3 {i j k : Nat} {x y z : Str} {a b d : Expr} {ca cb cd : IE} {px py pz pt : Pos} {kt k2 pt2} (hc : X.calm = true) (nd : X.N.Nodup) (ha : PE X a (tI c W ca)) (hb : PE X b (tI c W cb)) (hd : PE X d (tI c W cd))
    (hi : X.N[i]? = some x := by rfl) (hj : X.N[j]? = some y := by rfl) (hk : X.N[k]? = some z := by rfl) (hij : i ≠ j := by decide) (hik : i ≠ k := by decide) (hjk : j ≠ k := by decide)
    (hx : X.env.scope.names.lookup x = some .local := by rfl) (hy : X.env.scope.names.lookup y = some .local := by rfl) (hz : X.env.scope.names.lookup z = some .local := by rfl)
    (hs1 : starEach [a, b, d] X.env = (false, eval a X.env) :: starEach [b, d] X.env := by rfl) (hs2 : starEach [b, d] X.env = (false, eval b X.env) :: starEach [d] X.env := by rfl) (hs3 : starEach [d] X.env = (false, eval d X.env) :: starEach [] X.env := by rfl)
    (hw : swappedStores [.Tuple [.Name x px, .Name y py, .Name z pz] kt pt] (.Tuple [a, b, d] k2 pt2) X.env = pure (some [x, y, z]) := by rfl)
    (hs : swapsWithSole [.Tuple [.Name x px, .Name y py, .Name z pz] kt pt] (.Tuple [a, b, d] k2 pt2) pos.line X.env = pure false := by rfl) :
    PS X (.Assign [.Tuple [.Name x px, .Name y py, .Name z pz] kt pt] (.Tuple [a, b, d] k2 pt2) pos) (tS c W (sPar3 i j k ca cb cd)) := by
  refine (ps_par3 hc nd hi hj hk hij hik hjk hx hy hz (pa_cons ha (pa_cons hb (pa_cons hd pa_nil hs3) hs2) hs1) hw hs).imp fun De σ H ⟨g, e, h, R, E, p⟩ => ?_
  refine ⟨g, e, h, R, E, toS_E E p fun d h1 g1 v H1 l R1 r1 p1 => ?_⟩
  refine ⟨g1, e, h1, R1, E.mono l, toS_E (E.mono l) p1 fun d2 h2 g2 v2 H2 l2 R2 r2 p2 => ?_⟩
  refine ⟨g2, e, h2, R2, (E.mono l).mono l2, toS_E ((E.mono l).mono l2) p2 fun d3 h3 g3 v3 H3 l3 R3 r3 p3 => ?_⟩
  exact ⟨v, v2, v3, rfl, p3 g3 _ H3 (.refl _) R3 ((((((E.mono l).mono l2).mono l3).set i ((r1.mono l2).mono l3)).set j (r2.mono l3)).set k r3)⟩
/-- name op= e -/
def sAug (op : Hs → D → D → Option D) (i : Nat) (a : IE) : IS := fun e h => match e[i]? with
  | some (some x) => (a e h).toS e fun y h1 => match op h1 x y with
    | some z => .next (e.set i (some z)) h1
    | none => .bad
  | _ => .bad
theorem s_aug {i : Nat} {x : Str} {e : Expr} {ce : IE} {op : Operator} {o : Hs → D → D → Option D} {pos' : Pos} (nd : X.N.Nodup) (ho : Op2 X c (inplaceOp op) o) (he : PE X e (tI c W ce)) (hi : X.N[i]? = some x := by rfl)
    (hx : Loc X.env.scope x := by first | exact Or.inl rfl | exact Or.inr rfl) (hf : X.fn x = true ∨ X.env.scope.names.lookup x = some .local := by first | exact .inl rfl | exact .inr rfl) : PS X (.AugAssign (.Name x pos') op e pos) (tS c W (sAug o i ce)) := by
  have hp : PIp X op (rOp c o) := fun pins s σ H x y v u Q I r1 r2 q => ho.opR pins s σ H x y v u Q I r1 r2 q
  refine (ps_aug nd hi hx he hp hf).imp fun De σ H ⟨g, e, h, R, E, p⟩ => ?_
  have p' : PstS c g De W (match e[i]? with
    | some (some x) => (ce e h).toS e fun y h1 => match o h1 x y with
      | some z => .next (e.set i (some z)) h1
      | none => .bad
    | _ => .bad) := p
  cases q : e[i]? with
  | none => rw [q] at p'; exact p'.elim
  | some o1 =>
    cases o1 with
    | none => rw [q] at p'; exact p'.elim
    | some d0 =>
      rw [q] at p'
      obtain ⟨v0, hv0, r0⟩ := E.at_ i d0 q
      refine ⟨v0, hv0, g, e, h, R, E, toS_E E p' fun d h1 g1 v H1 l R1 r1 p1 => ?_⟩
      cases q1 : o h1 d0 d with
      | none => rw [q1] at p1; exact p1.elim
      | some z =>
        rw [q1] at p1
        exact ⟨g1, h1, d0, d, z, R1, r0.mono l, r1, q1, fun g2 v2 H2 l2 R2 r2 => p1 g2 _ H2 l2 R2 (((E.mono l).mono l2).set i r2)⟩
end
end
end Pi
end
section
set_option maxRecDepth 100000
set_option autoImplicit false
/-! Pi9: stores to fields, while, for. -/
namespace Pi
open PySem PySem.Spec PyProof.Rows L2

theorem putF_zip {f : Str} {y : V} : ∀ {ns : List Str} {xs : List V} {i : Nat}, ns.Nodup → ns[i]? = some f → i ≤ xs.length → xs.length ≤ ns.length → putF f y (ns.zip xs) = ns.zip (if i < xs.length then xs.set i y else xs ++ [y])
  | [], _, _, _, h, _, _ => by simp at h
  | n :: ns, [], i, _, h, hi, _ => by
    have hi0 : i = 0 := by simpa using hi
    subst hi0
    have hn : n = f := by simpa using h
    subst hn
    simp [putF]
  | n :: ns, x :: xs, 0, nd, h, _, _ => by
    have hn : n = f := by simpa using h
    subst hn
    rw [List.zip_cons_cons]
    unfold putF
    rw [if_pos rfl, if_pos (by simp)]
    simp
  | n :: ns, x :: xs, i + 1, nd, h, hi, hl => by
    have hf : f ∈ ns := List.mem_of_getElem? (by simpa using h)
    have hne : n ≠ f := by
      rintro rfl
      exact (List.nodup_cons.mp nd).1 hf
    rw [List.zip_cons_cons]
    unfold putF
    rw [if_neg hne, putF_zip (List.nodup_cons.mp nd).2 (by simpa using h) (by simpa using hi) (by simpa using hl)]
    by_cases hlt : i < xs.length
    · rw [if_pos hlt, if_pos (by simpa using hlt), List.set_cons_succ, List.zip_cons_cons]
    · rw [if_neg hlt, if_neg (by simpa using hlt), List.cons_append, List.zip_cons_cons]
/-- a field stored: the next one, or one that is there -/
def putD (fs : List D) (i : Nat) (d : D) : Option (List D) := if i < fs.length then some (fs.set i d) else if i = fs.length then some (fs ++ [d]) else none
section
variable {X : Cx} {c : Cn} {W : WX}
theorem put_rep {g : G} {xs : List V} {fs fs' : List D} {v : V} {d : D} {i : Nat} (rl : RepL c g xs fs) (r : Rep c g v d) (e : putD fs i d = some fs') : i ≤ xs.length ∧ RepL c g (if i < xs.length then xs.set i v else xs ++ [v]) fs' := by
  unfold putD at e
  have hl := rl.length
  by_cases h1 : i < fs.length
  · rw [if_pos h1] at e
    cases e
    refine ⟨by omega, ?_⟩
    rw [if_pos (by omega)]
    exact rl.set r i
  · rw [if_neg h1] at e
    by_cases h2 : i = fs.length
    · rw [if_pos h2] at e
      cases e
      refine ⟨by omega, ?_⟩
      rw [if_neg (by omega)]
      exact rl.append (.cons r .nil)
    · rw [if_neg h2] at e; cases e
theorem put_ins {g : G} {H : Hp} {h : Hs} {n k i a : Nat} {fs fs' : List D} {xs : List V} {v : V} {d : D} {cl : Cls1} {C dx : Addr} {f : Str} (R : Rel c g H h) (hc : c.cls[k]? = some cl) (hC : c.mg cl.name = some (.ref C)) (nd : cl.fields.Nodup) (hf : cl.fields[i]? = some f)
    (hn : g.m[n]? = some a) (hF : g.F a = none) (hH : H a = some (.ins C dx (cl.fields.zip xs))) (rl : RepL c g xs fs) (hlen : xs.length ≤ cl.fields.length) (r : Rep c g v d) (e : putD fs i d = some fs') :
    Rel c g (upd H a (.ins C dx (putF f v (cl.fields.zip xs)))) (h.set n (.ins k fs')) := by
  obtain ⟨h1, h2⟩ := put_rep rl r e
  rw [putF_zip nd hf h1 hlen]
  refine R.write hn hF (.ins hF hc hC upd_same ⟨_, h2, rfl, ?_⟩)
  have hi := (List.getElem?_eq_some_iff.mp hf).1
  by_cases hlt : i < xs.length
  · rw [if_pos hlt, List.length_set]; exact hlen
  · rw [if_neg hlt, List.length_append]; simp; omega
theorem zip_len {ns : List Str} {xs : List V} (h : xs.length ≤ ns.length) : (ns.zip xs).length = xs.length := by
  rw [List.length_zip]; omega
section
variable {o e : Expr} {co ce : IE} {f : Str} {pos pos' : Pos} {k i : Nat}
/-- o.f = e -/
def sFldS (k i : Nat) (o a : IE) : IS := fun e h => (a e h).toS e fun d h1 => (o e h1).toS e fun x h2 => match insAt h2 k x with
  | some (n, fs) => match putD fs i d with
    | some fs' => .next e (h2.set n (.ins k fs'))
    | none => .bad
  | none => .bad
theorem s_fld (hK : X.K = c.K) (F : FldI c k f i) (ho : PE X o (tI c W co)) (he : PE X e (tI c W ce)) (hs : swapsWith e (some (.Attribute o f pos')) pos.line X.env = pure false := by rfl) : PS X (.Assign [.Attribute o f pos'] e pos) (tS c W (sFldS k i co ce)) := by
  obtain ⟨cl, C, hc, hC, hcl, hno, hf, nd, hl⟩ := F.ex
  refine (ps_fld ho he hs).imp fun De σ H ⟨g, ev, h, R, E, p⟩ => ?_
  refine ⟨g, ev, h, R, E, toS_E E p fun d h1 g1 v H1 l1 R1 r1 p1 => ?_⟩
  refine ⟨g1, ev, h1, R1, E.mono l1, toS_E (E.mono l1) p1 fun x h2 g2 u H2 l2 R2 r2 p2 => ?_⟩
  cases q : insAt h2 k x with
  | none => rw [q] at p2; exact p2.elim
  | some nf =>
    obtain ⟨n, fs⟩ := nf
    rw [q] at p2
    dsimp only at p2
    obtain ⟨rfl, e1⟩ := insAt_ok q
    obtain ⟨a, dx, xs, rfl, hn, hF, hH, rl, hlen⟩ := rel_ins R2 r2 e1 hc hC
    cases q2 : putD fs i d with
    | none => rw [q2] at p2; exact p2.elim
    | some fs' =>
      rw [q2] at p2
      refine ⟨a, C, dx, _, rfl, hH, by rw [hK]; exact hcl, by rw [hK]; exact hno, by rw [zip_len hlen]; omega, ?_⟩
      exact p2 g2 σ _ (.refl _) (put_ins R2 hc hC nd hf hn hF hH rl hlen (r1.mono l2) q2) ((E.mono l1).mono l2)
/-- o.f op= e -/
def sFldA (op : Hs → D → D → Option D) (k i : Nat) (o a : IE) : IS := fun e h => (o e h).toS e fun x h1 => match insAt h1 k x with
  | some (_, fs) => match fs[i]? with
    | some d0 => (a e h1).toS e fun y h2 => match op h2 d0 y with
      | some z => match insAt h2 k x with
        | some (n, fs2) => match putD fs2 i z with
          | some fs' => .next e (h2.set n (.ins k fs'))
          | none => .bad
        | none => .bad
      | none => .bad
    | none => .bad
  | none => .bad
theorem s_fldA {op : Operator} {oo : Hs → D → D → Option D} (hK : X.K = c.K) (F : FldI c k f i) (hop : Op2 X c (inplaceOp op) oo) (ho : PE X o (tI c W co)) (he : PE X e (tI c W ce)) : PS X (.AugAssign (.Attribute o f pos') op e pos) (tS c W (sFldA oo k i co ce)) := by
  obtain ⟨cl, C, hc, hC, hcl, hno, hf, nd, hl⟩ := F.ex
  have hp : InOp X op (rOp c oo) := fun pins s σ H x y u v Q I r1 r2 q => hop.opR pins s σ H x y u v Q I r1 r2 q
  refine (ps_fldaug ho he hp).imp fun De σ H ⟨g, ev, h, R, E, p⟩ => ?_
  refine ⟨g, ev, h, R, E, toS_E E p fun x h1 g1 u H1 l1 R1 r1 p1 => ?_⟩
  cases q : insAt h1 k x with
  | none => rw [q] at p1; exact p1.elim
  | some nf =>
    obtain ⟨n, fs⟩ := nf
    rw [q] at p1
    dsimp only at p1
    obtain ⟨rfl, e1⟩ := insAt_ok q
    obtain ⟨a, dx, xs, rfl, hn, hF, hH, rl, hlen⟩ := rel_ins R1 r1 e1 hc hC
    cases q2 : fs[i]? with
    | none => rw [q2] at p1; exact p1.elim
    | some d0 =>
      rw [q2] at p1
      obtain ⟨v0, hv0, r0⟩ := rl.get q2
      refine ⟨a, C, dx, _, v0, rfl, hH, by rw [hK]; exact hcl, by rw [hK]; exact hno, lookup_zip nd hf hv0, ?_⟩
      refine ⟨g1, ev, h1, R1, E.mono l1, toS_E (E.mono l1) p1 fun y h2 g2 v2 H2 l2 R2 r2 p2 => ?_⟩
      cases q3 : oo h2 d0 y with
      | none => rw [q3] at p2; exact p2.elim
      | some z =>
        rw [q3] at p2
        dsimp only at p2
        refine ⟨g2, h2, d0, y, z, R2, r0.mono l2, r2, q3, fun g3 v3 H3 l3 R3 r3 => ?_⟩
        cases q4 : insAt h2 k (.ref n) with
        | none => rw [q4] at p2; exact p2.elim
        | some nf2 =>
          obtain ⟨n2, fs2⟩ := nf2
          rw [q4] at p2
          dsimp only at p2
          obtain ⟨hn2, e2⟩ := insAt_ok q4
          cases hn2
          cases q5 : putD fs2 i z with
          | none => rw [q5] at p2; exact p2.elim
          | some fs' =>
            rw [q5] at p2
            obtain ⟨a2, dx2, xs2, ea, hn2, hF2, hH2, rl2, hlen2⟩ := rel_ins R3 (.ref ((l2.trans l3).at hn)) e2 hc hC
            cases ea
            refine ⟨dx2, _, hH2, by rw [zip_len hlen2]; omega, ?_⟩
            exact p2 g3 σ _ l3 (put_ins R3 hc hC nd hf hn2 hF2 hH2 rl2 hlen2 r3 q5) (((E.mono l1).mono l2).mono l3)
end

/-! ### while -/
def cWhile : Nat → IT → IS → IS
  | 0, _, _ => fun _ _ => .bad
  | n + 1, t, b => fun e h => (t e h).toS e fun k h1 => match k with
    | false => .next e h1
    | true => match b e h1 with
      | .next e2 h2 => cWhile n t b e2 h2
      | .cnt e2 h2 => cWhile n t b e2 h2
      | .brk e2 h2 => .next e2 h2
      | r => r
theorem s_while {t : Expr} {body : List Stmt} {ct : IT} {f : IS} {pos : Pos} (n : Nat) (hp : PassesOwn (model X.prog X.w) X.A X.env X.xe) (ht : PT X t (tT c W ct)) (hb : PSs X body (tS c W f)) : PS X (.While t body [] pos) (tS c W (cWhile n ct f)) := by
  refine (ps_while hp ht hb).imp fun De σ H ⟨g, e, h, R, E, p⟩ => ?_
  refine ⟨fun m σ H => ∃ g e h, Rel c g H h ∧ EnvR c g σ e ∧ PstS c g De W (cWhile m ct f e h), ⟨n, g, e, h, R, E, p⟩, ?_⟩
  rintro m σ1 H1 ⟨g1, e1, h1, R1, E1, p1⟩
  cases m with
  | zero => exact p1.elim
  | succ m =>
    refine ⟨g1, e1, h1, R1, E1, toS_T E1 p1 fun k h2 g2 H2 l2 R2 p2 => ?_⟩
    cases k with
    | false =>
      rw [if_neg Bool.false_ne_true]
      exact p2 g2 σ1 H2 (.refl _) R2 (E1.mono l2)
    | true =>
      rw [if_pos rfl]
      refine ⟨fun σ H => ∃ g e h, Rel c g H h ∧ EnvR c g σ e ∧ PstS c g De W (cWhile m ct f e h), fun σ' H' z => ⟨m, Nat.lt_succ_self m, z⟩, g2, e1, h2, R2, E1.mono l2, ?_⟩
      dsimp only at p2
      cases q : f e1 h2 with
      | next e3 h3 => rw [q] at p2; exact fun g3 σ3 H3 l3 R3 E3 => ⟨g3, e3, h3, R3, E3, PstS.le p2 l3⟩
      | cnt e3 h3 => rw [q] at p2; exact fun g3 σ3 H3 l3 R3 E3 => ⟨g3, e3, h3, R3, E3, PstS.le p2 l3⟩
      | brk e3 h3 => rw [q] at p2; exact p2
      | ret d h3 => rw [q] at p2; exact p2
      | exc k p e3 h3 => rw [q] at p2; exact p2
      | bad => rw [q] at p2; exact p2

/-! ### what is walked -/
/-- an iterator that yields just these -/
structure ItOk (c : Cn) (J : It) (g : G) (ds : List D) : Prop where
  go : ∀ (g' : G) (H : Hp) (h : Hs) (i : Nat) (d : D), g.lf g' → Rel c g' H h → ds[i]? = some d → J.go i H ∧ ∀ x H', J.yld i H x H' → ∃ g2, g'.le g2 ∧ Rel c g2 H' h ∧ Rep c g2 x d
  stop : ∀ (g' : G) (H : Hp) (h : Hs) (i : Nat), g.lf g' → Rel c g' H h → ds.length ≤ i → J.stop i H
abbrev II := Lv → Hs → R (List D)
def tII (c : Cn) (W : WX) (f : II) : TI := fun σ H Q => ∃ g e h, Rel c g H h ∧ EnvR c g σ e ∧
  (match f e h with
   | .ok ds h' => ∀ g' H' J, g.le g' → Rel c g' H' h' → ItOk c J g' ds → Q J H'
   | .exc k p h' => ∀ g' H' cls dx, g.le g' → Rel c g' H' h' → XRep c g' H' cls dx k p → W cls dx σ H'
   | .bad => False)
theorem PI.imp {tg it : Expr} {t t' : TI} (h : PI X tg it t) (i : ∀ σ H Q, t' σ H Q → t σ H Q) : PI X tg it t' := ⟨fun pins s σ H R I q => h.run pins s σ H R I (i σ H R q)⟩
theorem PI.or {tg it : Expr} {t t' : TI} (h : PI X tg it t) (h' : PI X tg it t') : PI X tg it (fun σ H Q => t σ H Q ∨ t' σ H Q) := ⟨fun pins s σ H R I q => q.elim (h.run pins s σ H R I) (h'.run pins s σ H R I)⟩
def cFor : List D → TGI → IS → IS
  | [], _, _ => fun e h => .next e h
  | d :: ds, t, b => fun e h => match t d e h with
    | none => .bad
    | some e1 => match b e1 h with
      | .next e2 h2 => cFor ds t b e2 h2
      | .cnt e2 h2 => cFor ds t b e2 h2
      | .brk e2 h2 => .next e2 h2
      | r => r
def sFor (i : II) (t : TGI) (b : IS) : IS := fun e h => (i e h).toS e fun ds h1 => cFor ds t b e h1
theorem s_for {tg iter : Expr} {body : List Stmt} {ci : II} {t : TGI} {ws : List Nat} {f : IS} {pos : Pos} (hp : PassesOwn (model X.prog X.w) X.A X.env X.xe) (hc : X.calm = true) (hi : PI X tg iter (tII c W ci)) (hg : PG X tg (gI c ws t)) (hb : PSs X body (tS c W f))
    (hs : ∀ x, foldedSetIterable iter X.env x = pure x := by intro _; rfl) : PS X (.For tg iter body [] pos) (tS c W (sFor ci t f)) := by
  refine (ps_for hp hc hi hg hb hs).imp fun De σ H ⟨g, e, h, R, E, p⟩ => ?_
  refine ⟨g, e, h, R, E, ?_⟩
  have p' : PstS c g De W ((ci e h).toS e fun ds h1 => cFor ds t f e h1) := p
  cases q : ci e h with
  | bad => rw [q] at p'; exact p'
  | exc k pp h1 => rw [q] at p'; exact fun g' H' cls dx l R' x => p' g' σ H' cls dx l R' (E.mono l) x
  | ok ds h1 =>
    rw [q] at p'
    intro g1 H1 J l1 R1 ok
    have p1 : PstS c g1 De W (cFor ds t f e h1) := PstS.le p' l1
    refine ⟨fun i m σ H => m = ds.length - i ∧ i ≤ ds.length ∧ ∃ g2 e2 h2, g1.le g2 ∧ Rel c g2 H h2 ∧ EnvR c g2 σ e2 ∧ PstS c g2 De W (cFor (ds.drop i) t f e2 h2), ⟨ds.length, rfl, Nat.zero_le _, g1, e, h1, .refl _, R1, E.mono l1, p1⟩, ?_⟩
    rintro i m σ2 H2 ⟨hm, hi', g2, e2, h2, l2, R2, E2, p2⟩
    by_cases hlt : i < ds.length
    · right
      have hd : ds[i]? = some ds[i] := by simp [hlt]
      obtain ⟨go, yld⟩ := ok.go g2 H2 h2 i ds[i] l2.lf R2 hd
      refine ⟨go, fun σ H => ∃ g3 e3 h3, g1.le g3 ∧ Rel c g3 H h3 ∧ EnvR c g3 σ e3 ∧ PstS c g3 De W (cFor (ds.drop (i + 1)) t f e3 h3), fun σ' H' z => ⟨ds.length - (i + 1), by omega, rfl, by omega, z⟩, fun x H3 y3 => ?_⟩
      obtain ⟨g3, l3, R3, r3⟩ := yld x H3 y3
      rw [List.drop_eq_getElem_cons hlt] at p2
      unfold cFor at p2
      try dsimp only at p2
      cases q1 : t ds[i] e2 h2 with
      | none => rw [q1] at p2; exact p2.elim
      | some e3 =>
        rw [q1] at p2
        refine ⟨g3, ds[i], e2, h2, e3, R3, E2.mono l3, r3, q1, fun σ3 E3 _ => ⟨g3, e3, h2, R3, E3, ?_⟩⟩
        try dsimp only at p2
        cases q2 : f e3 h2 with
        | next e4 h4 => rw [q2] at p2; exact fun g4 σ4 H4 l4 R4 E4 => ⟨g4, e4, h4, (l2.trans l3).trans l4, R4, E4, PstS.le p2 (l3.trans l4)⟩
        | cnt e4 h4 => rw [q2] at p2; exact fun g4 σ4 H4 l4 R4 E4 => ⟨g4, e4, h4, (l2.trans l3).trans l4, R4, E4, PstS.le p2 (l3.trans l4)⟩
        | brk e4 h4 => rw [q2] at p2; exact fun g4 σ4 H4 l4 => p2 g4 σ4 H4 (l3.trans l4)
        | ret d h4 => rw [q2] at p2; exact fun g4 v4 H4 l4 => p2 g4 v4 H4 (l3.trans l4)
        | exc k pp e4 h4 => rw [q2] at p2; exact fun g4 σ4 H4 cls dx l4 => p2 g4 σ4 H4 cls dx (l3.trans l4)
        | bad => rw [q2] at p2; exact p2.elim
    · left
      refine ⟨ok.stop g2 H2 h2 i l2.lf R2 (by omega), ?_⟩
      rw [List.drop_eq_nil_of_le (by omega)] at p2
      exact p2 g2 σ2 H2 (.refl _) R2 E2

/-! ### the iterators -/
theorem itl_ok {g : G} {a : Addr} {xs : List V} {ds : List D} (hF : g.F a = some (.lst xs)) (rl : RepL c g xs ds) (hK : X.K = c.K) : ItOk c (Itl X.K a) g ds := by
  refine ⟨fun g' H h i d l R hd => ?_, fun g' H h i l R hi => ?_⟩
  · have hS : SqL X.K H a xs := SqL.of (R.fr _ _ (l.f _ _ hF))
    obtain ⟨x, hx, rx⟩ := rl.get hd
    refine ⟨⟨xs, x, hS, hx⟩, fun y H' hy => ?_⟩
    obtain ⟨e1, hy⟩ := hy
    have e1' : H' = H := e1
    subst e1'
    have := hy xs hS
    rw [hx] at this
    cases this
    exact ⟨g', .refl _, R, rx.monoF l⟩
  · exact ⟨xs, SqL.of (R.fr _ _ (l.f _ _ hF)), by rw [rl.length]; exact hi⟩
theorem itq_ok {g : G} {a : Addr} {xs : List V} {ds : List D} (hF : SqL c.K g.F a xs) (rl : RepL c g xs ds) (hK : X.K = c.K) : ItOk c (Itl X.K a) g ds := by
  refine ⟨fun g' H h i d l R hd => ?_, fun g' H h i l R hi => ?_⟩
  · have hS : SqL X.K H a xs := by rw [hK]; exact SqL.monoF hF fun a o e => R.fr _ _ (l.f _ _ e)
    obtain ⟨x, hx, rx⟩ := rl.get hd
    refine ⟨⟨xs, x, hS, hx⟩, fun y H' hy => ?_⟩
    obtain ⟨e1, hy⟩ := hy
    have e1' : H' = H := e1
    subst e1'
    have := hy xs hS
    rw [hx] at this
    cases this
    exact ⟨g', .refl _, R, rx.monoF l⟩
  · exact ⟨xs, by rw [hK]; exact SqL.monoF hF fun a o e => R.fr _ _ (l.f _ _ e), by rw [rl.length]; exact hi⟩
theorem itt_ok {g : G} {a : Addr} {xs : List V} {ds : List D} (hF : SqT c.K g.F a xs) (rl : RepL c g xs ds) (hK : X.K = c.K) : ItOk c (Itt X.K a) g ds := by
  refine ⟨fun g' H h i d l R hd => ?_, fun g' H h i l R hi => ?_⟩
  · have hS : SqT X.K H a xs := by rw [hK]; exact (SqT.monoF hF fun a o e => R.fr _ _ (l.f _ _ e))
    obtain ⟨x, hx, rx⟩ := rl.get hd
    refine ⟨⟨xs, x, hS, hx⟩, fun y H' hy => ?_⟩
    obtain ⟨e1, hy⟩ := hy
    have e1' : H' = H := e1
    subst e1'
    have := hy xs hS
    rw [hx] at this
    cases this
    exact ⟨g', .refl _, R, rx.monoF l⟩
  · exact ⟨xs, by rw [hK]; exact (SqT.monoF hF fun a o e => R.fr _ _ (l.f _ _ e)), by rw [rl.length]; exact hi⟩
theorem itr_ok {g : G} {lo : Int} {n : Nat} : ItOk c (Itr lo n) g ((List.range n).map fun (i : Nat) => D.int (lo + i)) := by
  refine ⟨fun g' H h i d l R hd => ?_, fun g' H h i l R hi => ?_⟩
  · rw [List.getElem?_map] at hd
    by_cases hi : i < n
    · rw [List.getElem?_range hi] at hd
      cases hd
      refine ⟨hi, fun y H' hy => ?_⟩
      obtain ⟨e1, rfl⟩ := hy
      have e1' : H' = H := e1
      subst e1'
      exact ⟨g', .refl _, R, .int _⟩
    · rw [List.getElem?_eq_none (by simpa using hi)] at hd
      cases hd
  · have hi' : n ≤ i := by simpa using hi
    exact hi'
/-- over a list (that is changed no more), a tuple -/
def cSeq (a : IE) : II := fun e h => (a e h).bind fun d h1 => match (frz h1 d).1 with
  | .lst ds => .ok ds (frz h1 d).2
  | .tup ds => .ok ds (frz h1 d).2
  | .lsq ds => .ok ds (frz h1 d).2
  | _ => .bad
theorem i_seq {tg iter : Expr} {ce : IE} (hK : X.K = c.K) (he : PE X iter (tI c W ce)) : PI X tg iter (tII c W (cSeq ce)) := by
  refine PI.imp (PI.or (L2.pi_list (tg := tg) he) (L2.pi_tup (tg := tg) he)) fun σ H Q ⟨g, e, h, R, E, p⟩ => ?_
  have p' : (match (ce e h).bind fun d h1 => (match (frz h1 d).1 with
      | .lst ds => Pi.R.ok ds (frz h1 d).2
      | .tup ds => .ok ds (frz h1 d).2
      | .lsq ds => .ok ds (frz h1 d).2
      | _ => .bad : Pi.R (List D)) with
   | .ok ds h' => ∀ g' H' J, g.le g' → Rel c g' H' h' → ItOk c J g' ds → Q J H'
   | .exc k p h' => ∀ g' H' cls dx, g.le g' → Rel c g' H' h' → XRep c g' H' cls dx k p → W cls dx σ H'
   | .bad => False) := p
  cases q : ce e h with
  | bad => rw [q] at p'; exact p'.elim
  | exc k pp h1 =>
    rw [q] at p'
    exact .inl ⟨g, e, h, R, E, by rw [q]; exact p'⟩
  | ok d h1 =>
    rw [q] at p'
    dsimp only [Pi.R.bind] at p'
    cases q2 : (frz h1 d).1 with
    | lst ds =>
      rw [q2] at p'
      refine .inl ⟨g, e, h, R, E, ?_⟩
      rw [q]
      intro g1 v H1 l1 R1 r1
      obtain ⟨g2, l2, R2, r2⟩ := frz_ok R1 r1
      rw [q2] at r2
      cases r2 with
      | lst hF rl => exact ⟨_, rfl, ⟨_, SqL.of (R2.fr _ _ hF)⟩, p' g2 H1 _ (l1.trans l2) R2 (itl_ok hF rl hK)⟩
    | tup ds =>
      rw [q2] at p'
      refine .inr ⟨g, e, h, R, E, ?_⟩
      rw [q]
      intro g1 v H1 l1 R1 r1
      obtain ⟨g2, l2, R2, r2⟩ := frz_ok R1 r1
      rw [q2] at r2
      cases r2 with
      | tup hF rl => exact ⟨_, rfl, ⟨_, by rw [hK]; exact SqT.monoF hF R2.fr⟩, p' g2 H1 _ (l1.trans l2) R2 (itt_ok hF rl hK)⟩
    | lsq ds =>
      rw [q2] at p'
      refine .inl ⟨g, e, h, R, E, ?_⟩
      rw [q]
      intro g1 v H1 l1 R1 r1
      obtain ⟨g2, l2, R2, r2⟩ := frz_ok R1 r1
      rw [q2] at r2
      cases r2 with
      | lsq hF rl => exact ⟨_, rfl, ⟨_, by rw [hK]; exact SqL.monoF hF R2.fr⟩, p' g2 H1 _ (l1.trans l2) R2 (itq_ok hF rl hK)⟩
    | _ => rw [q2] at p'; exact p'.elim
def rgOk (i : Int) : Bool := decide (-(2 ^ 62) ≤ i) && decide (i < 2 ^ 62)
theorem rgOk_ok {i : Int} (h : rgOk i = true) : -(2 ^ 62) ≤ i ∧ i < 2 ^ 62 := let ⟨a, b⟩ := Bool.and_eq_true_iff.mp h; ⟨of_decide_eq_true a, of_decide_eq_true b⟩
def intsD (lo : Int) (n : Nat) : List D := (List.range n).map fun (i : Nat) => D.int (lo + i)
def cRng1 (a : IA) : II := fun e h => (a e h).bind fun ds h1 => match ds with
  | [.int j] => if rgOk j then .ok (intsD 0 j.toNat) h1 else .bad
  | _ => .bad
def cRng2 (a : IA) : II := fun e h => (a e h).bind fun ds h1 => match ds with
  | [.int i, .int j] => if rgOk i && rgOk j then .ok (intsD i (j - i).toNat) h1 else .bad
  | _ => .bad
theorem i_rng1 {tg a : Expr} {ca : IA} {p pos : Pos} (hm : X.mg = c.mg) (k : c.mg "range" = none) (ha : PA X [a] (tA c W ca)) (hg : Gl X "range" := by rfl) (hs : starEach [a] X.env = [(false, eval a X.env)] := by rfl) : PI X tg (.Call (.Name "range" p) [a] [] pos) (tII c W (cRng1 ca)) := by
  refine PI.imp (pi_range1 hg (by rw [hm]; exact k) ha hs) fun σ H Q ⟨g, e, h, R, E, p⟩ => ?_
  refine ⟨g, e, h, R, E, ?_⟩
  unfold cRng1 at p
  cases q : ca e h with
  | bad => rw [q] at p; exact p.elim
  | exc k pp h1 => rw [q] at p; exact p
  | ok ds h1 =>
    rw [q] at p
    dsimp only [Pi.R.bind] at p
    intro g1 vs H1 l1 R1 r1
    rcases ds with _ | ⟨d, _ | ⟨d2, ds⟩⟩
    · exact p.elim
    · cases d with
      | int j =>
        dsimp only at p
        obtain ⟨v, rfl, rv⟩ := repL1 r1
        cases rv
        by_cases ok : rgOk j = true
        · rw [if_pos ok] at p
          obtain ⟨o1, o2⟩ := rgOk_ok ok
          exact ⟨j, rfl, o1, o2, p g1 H1 _ l1 R1 itr_ok⟩
        · rw [if_neg ok] at p; exact p.elim
      | _ => exact p.elim
    · cases d <;> exact p.elim
theorem i_rng2 {tg a b : Expr} {ca : IA} {p pos : Pos} (hm : X.mg = c.mg) (k : c.mg "range" = none) (ha : PA X [a, b] (tA c W ca)) (hg : Gl X "range" := by rfl) (hs : starEach [a, b] X.env = [(false, eval a X.env), (false, eval b X.env)] := by rfl) (hs2 : starEach [b] X.env = [(false, eval b X.env)] := by rfl) :
    PI X tg (.Call (.Name "range" p) [a, b] [] pos) (tII c W (cRng2 ca)) := by
  refine PI.imp (pi_range2 hg (by rw [hm]; exact k) ha hs hs2) fun σ H Q ⟨g, e, h, R, E, p⟩ => ?_
  refine ⟨g, e, h, R, E, ?_⟩
  unfold cRng2 at p
  cases q : ca e h with
  | bad => rw [q] at p; exact p.elim
  | exc k pp h1 => rw [q] at p; exact p
  | ok ds h1 =>
    rw [q] at p
    dsimp only [Pi.R.bind] at p
    intro g1 vs H1 l1 R1 r1
    rcases ds with _ | ⟨d, _ | ⟨d2, _ | ⟨d3, ds⟩⟩⟩
    · exact p.elim
    · cases d <;> exact p.elim
    · cases d with
      | int i =>
        cases d2 with
        | int j =>
          dsimp only at p
          obtain ⟨v, u, rfl, rv, ru⟩ := repL2 r1
          cases rv
          cases ru
          by_cases ok : (rgOk i && rgOk j) = true
          · rw [if_pos ok] at p
            obtain ⟨o1, o2⟩ := Bool.and_eq_true_iff.mp ok
            obtain ⟨o3, o4⟩ := rgOk_ok o1
            obtain ⟨o5, o6⟩ := rgOk_ok o2
            exact ⟨i, j, rfl, ⟨o3, o4, o5, o6⟩, p g1 H1 _ l1 R1 itr_ok⟩
          · rw [if_neg ok] at p; exact p.elim
        | _ => exact p.elim
      | _ => exact p.elim
    · cases d <;> cases d2 <;> exact p.elim
end
end Pi
end
section
set_option maxRecDepth 100000
set_option autoImplicit false
/-! Pi10: list comprehensions. -/
namespace Pi
open PySem PySem.Spec PyProof.Rows L2

def W0 : WX := fun _ _ _ _ => False
def wipeL (e : Lv) : List Nat → Lv
  | [] => e
  | v :: vs => (wipeL e vs).set v none
section
variable {X : Cx} {c : Cn} {W : WX}
theorem EnvR.setN {g : G} {σ : L2.St} {e : Lv} (r : EnvR c g σ e) (i : Nat) : EnvR c g (σ.set i none) (e.set i none) := by
  refine ⟨by simp [r.len], fun j d' h => ?_⟩
  by_cases hj : j = i
  · subst hj
    have hl : j < e.length := by
      have := (List.getElem?_eq_some_iff.mp h).1
      simpa using this
    rw [List.getElem?_set_self hl] at h
    cases h
  · rw [List.getElem?_set_ne (Ne.symm hj)] at h ⊢
    exact r.at_ j d' h
theorem wipeR {g : G} {σ : L2.St} {e : Lv} (E : EnvR c g σ e) : ∀ vs, EnvR c g (wipe σ vs) (wipeL e vs)
  | [] => E
  | v :: vs => (wipeR E vs).setN v
theorem wipe_in {σ : L2.St} {i : Nat} : ∀ {vs : List Nat}, i ∈ vs → i < σ.length → (wipe σ vs)[i]? = some none
  | v :: vs, h, hl => by
    unfold wipe
    by_cases hv : v = i
    · subst hv
      rw [List.getElem?_set_self (by rw [wipe_length]; exact hl)]
    · rw [List.getElem?_set_ne hv]
      rcases List.mem_cons.mp h with e | h
      · exact absurd e.symm hv
      · exact wipe_in h hl
theorem wipe_no {σ : L2.St} {i : Nat} : ∀ {vs : List Nat}, i ∉ vs → (wipe σ vs)[i]? = σ[i]?
  | [], _ => rfl
  | v :: vs, h => by
    unfold wipe
    have hv : v ≠ i := by
      rintro rfl
      exact h List.mem_cons_self
    rw [List.getElem?_set_ne hv]
    exact wipe_no fun z => h (List.mem_cons_of_mem _ z)
theorem wipe_kp {σ σ' : L2.St} {ws vs : List Nat} (k : Kp ws (wipe σ vs) σ') (h : ∀ i ∈ ws, i ∈ vs) : wipe σ' vs = wipe σ vs := by
  have hl : σ'.length = σ.length := by rw [k.1, wipe_length]
  refine List.ext_getElem? fun i => ?_
  by_cases hi : i ∈ vs
  · by_cases hb : i < σ.length
    · rw [wipe_in hi hb, wipe_in hi (by rw [hl]; exact hb)]
    · rw [List.getElem?_eq_none (by rw [wipe_length]; omega), List.getElem?_eq_none (by rw [wipe_length]; omega)]
  · rw [wipe_no hi, k.2 i fun z => hi (h i z)]
theorem upd_upd {H : Hp} {a : Addr} {o o' : HO} : upd (upd H a o) a o' = upd H a o' := by
  funext b
  by_cases hb : b = a
  · subst hb; rw [upd_same, upd_same]
  · rw [upd_ne hb, upd_ne hb, upd_ne hb]
/-- nothing may be raised here -/
def noX {α : Type} : R α → R α
  | .exc _ _ _ => .bad
  | r => r
theorem noX_E {g : G} {Q : VK} {r : R D} {Wx : XK} (h : ∀ d h1, r = .ok d h1 → ∀ g' v H, g.le g' → Rel c g' H h1 → Rep c g' v d → Q v H) (ho : ∃ d h1, r = .ok d h1) : Pst c g Q Wx r := by
  obtain ⟨d, h1, e⟩ := ho
  subst e
  exact h d h1 rfl
def goLc (t : TGI) (tt : IT) (a : IE) (e : Lv) : List D → Hs → R (List D)
  | [], h => .ok [] h
  | d :: ds, h => match t d e h with
    | none => .bad
    | some e1 => (noX (tt e1 h)).bind fun k h1 => match k with
      | false => goLc t tt a e ds h1
      | true => (noX (a e1 h1)).bind fun y h2 => (goLc t tt a e ds h2).bind fun ys h3 => .ok (y :: ys) h3
def finLc (live : Bool) (ys : List D) (h : Hs) : R D := match live with
  | true => .ok (.ref h.length) (h ++ [.lst ys])
  | false => .ok (.lst ys) h
def cLc (live : Bool) (vs : List Nat) (i : II) (t : TGI) (tt : IT) (a : IE) : IE := fun e h => (i e h).bind fun ds h1 => if ds.length ≤ LIM then (goLc t tt a (wipeL e vs) ds h1).bind fun ys h2 => finLc live ys h2 else .bad
theorem goLc_noexc (t : TGI) (tt : IT) (a : IE) (e : Lv) : ∀ (ds : List D) (h : Hs) (k : Nat) (p : Option D) (h' : Hs), goLc t tt a e ds h ≠ .exc k p h'
  | [], h, k, p, h', q => by cases q
  | d :: ds, h, k, p, h', q => by
    unfold goLc at q
    cases q1 : t d e h with
    | none => rw [q1] at q; cases q
    | some e1 =>
      rw [q1] at q
      dsimp only at q
      cases q2 : tt e1 h with
      | bad => rw [q2] at q; cases q
      | exc => rw [q2] at q; cases q
      | ok b h1 =>
        rw [q2] at q
        dsimp only [noX, R.bind] at q
        cases b with
        | false => exact goLc_noexc t tt a e ds h1 k p h' q
        | true =>
          dsimp only at q
          cases q3 : a e1 h1 with
          | bad => rw [q3] at q; cases q
          | exc => rw [q3] at q; cases q
          | ok y h2 =>
            rw [q3] at q
            dsimp only [noX, R.bind] at q
            cases q4 : goLc t tt a e ds h2 with
            | bad => rw [q4] at q; cases q
            | exc k' p' h'' => exact goLc_noexc t tt a e ds h2 _ _ _ q4
            | ok ys h3 => rw [q4] at q; cases q
theorem goLc_cons (t : TGI) (tt : IT) (a : IE) (e : Lv) (d : D) (ds : List D) (h : Hs) : goLc t tt a e (d :: ds) h = (match t d e h with
    | none => .bad
    | some e1 => (noX (tt e1 h)).bind fun k h1 => match k with
      | false => goLc t tt a e ds h1
      | true => (noX (a e1 h1)).bind fun y h2 => (goLc t tt a e ds h2).bind fun ys h3 => .ok (y :: ys) h3) := rfl
theorem R.bind_assoc {α β γ : Type} (r : R α) (f : α → Hs → R β) (k : β → Hs → R γ) : (r.bind f).bind k = r.bind fun a h => (f a h).bind k := by cases r <;> rfl
theorem bad_bind {α β : Type} (f : α → Hs → R β) : (R.bad : R α).bind f = .bad := rfl
theorem ok_bind {α β : Type} (a : α) (h : Hs) (f : α → Hs → R β) : (R.ok a h).bind f = f a h := rfl
theorem exc_bind {α β : Type} (k : Nat) (p : Option D) (h : Hs) (f : α → Hs → R β) : (R.exc k p h : R α).bind f = .exc k p h := rfl
theorem lc_fin {g1 : G} {F : Hp} {m : List Addr} {D : Addr} {acc : List V} {accD : List Pi.D} {H : Hp} {h : Hs} {live : Bool} {Q : VK} {Wx : XK} (hp : Pst c g1 Q Wx (finLc live accD h)) (hx : g1.x D = none) (l : g1.lf ⟨F, m, upd g1.x D (.lst acc)⟩) (R : Rel c ⟨F, m, upd g1.x D (.lst acc)⟩ H h)
    (r : RepL c ⟨F, m, upd g1.x D (.lst acc)⟩ acc accD) : Q (.ref D) H := by
  cases live with
  | false =>
    obtain ⟨R2, nF⟩ := R.outF hx
    have lf2 : G.lf ⟨F, m, upd g1.x D (.lst acc)⟩ ⟨upd F D (.lst acc), m, g1.x⟩ := ⟨fun a u q => by
      show upd F D (.lst acc) a = some u
      rw [upd_ne (ne_of_none (show F a = some u from q) nF)]; exact q, [], by simp⟩
    refine hp ⟨upd F D (.lst acc), m, g1.x⟩ (.ref D) H ⟨(l.trans lf2).f, (l.trans lf2).m, rfl⟩ R2 (.lst (show (upd F D (.lst acc)) D = some (.lst acc) from upd_same) (r.monoF lf2))
  | true =>
    obtain ⟨n0, n2, n1⟩ := R.pr D (.lst acc) upd_same
    have lf2 : G.lf ⟨F, m, upd g1.x D (.lst acc)⟩ ⟨F, m ++ [D], g1.x⟩ := ⟨fun a u q => q, [D], rfl⟩
    have R2 := R.outM (x := .lst accD) hx (.lst n2 n0 (r.monoF lf2))
    refine hp ⟨F, m ++ [D], g1.x⟩ (.ref D) H ⟨(l.trans lf2).f, (l.trans lf2).m, rfl⟩ R2 (.ref ?_)
    show (m ++ [D])[h.length]? = some D
    have hl : m.length = h.length := R.len
    rw [← hl, List.getElem?_append_right (Nat.le_refl _)]
    simp
/-- the reading of a comprehension -/
theorem tLc_of {live : Bool} {vs ws : List Nat} {ci : II} {t : TGI} {ct : IT} {ce : IE} {σ : L2.St} {H : Hp} {Q : VK} (hw : ∀ i ∈ ws, i ∈ vs) (h : tI c W (cLc live vs ci t ct ce) σ H Q) : tLc (tII c W ci) (gI c ws t) (tT c W0 ct) (tI c W0 ce) vs σ H Q := by
  obtain ⟨g, e, h, R, E, p⟩ := h
  refine ⟨g, e, h, R, E, ?_⟩
  have p' : Pst c g Q (fun cls dx H => W cls dx σ H) ((ci e h).bind fun ds h1 => if ds.length ≤ LIM then (goLc t ct ce (wipeL e vs) ds h1).bind fun ys h2 => finLc live ys h2 else .bad) := p
  cases q : ci e h with
  | bad => rw [q] at p'; exact p'
  | exc k pp h1 => rw [q] at p'; exact p'
  | ok ds h1 =>
    rw [q] at p'
    intro g1 H1 J l1 R1 ok D hD
    have p1 := Pst.le p' l1
    rw [ok_bind] at p1
    by_cases hl : ds.length ≤ LIM
    · rw [if_pos hl] at p1
      have hx0 : g1.x D = none := by
        cases z : g1.x D with
        | none => rfl
        | some o => exact absurd rfl (R1.notx hD z)
      have E1 := wipeR (E.mono l1) vs
      generalize hr0 : (goLc t ct ce (wipeL e vs) ds h1).bind (fun ys h2 => finLc live ys h2) = r0 at p1
      let St : Nat → Hp → Prop := fun i H => ∃ F m h2 acc accD, g1.lf ⟨F, m, upd g1.x D (.lst acc)⟩ ∧ Rel c ⟨F, m, upd g1.x D (.lst acc)⟩ H h2 ∧ RepL c ⟨F, m, upd g1.x D (.lst acc)⟩ acc accD ∧ acc.length ≤ i ∧
        r0 = (goLc t ct ce (wipeL e vs) (ds.drop i) h2).bind (fun ys h3 => finLc live (accD ++ ys) h3)
      refine ⟨fun i m H => m = ds.length - i ∧ i ≤ ds.length ∧ St i H, ⟨ds.length, rfl, Nat.zero_le _, g1.F, g1.m, h1, [], [], lf_x _ _ _ _, R1.newX hD _, .nil, Nat.le_refl _, by simp [hr0]⟩, ?_⟩
      rintro i m0 H2 ⟨hm, hi', F, m, h2, acc, accD, lf, R2, ra, hal, eq⟩
      by_cases hlt : i < ds.length
      · right
        have hd : ds[i]? = some ds[i] := by simp [hlt]
        obtain ⟨go, yld⟩ := ok.go _ H2 h2 i ds[i] lf R2 hd
        refine ⟨go, fun H => St (i + 1) H, fun H' z => ⟨ds.length - (i + 1), by omega, rfl, by omega, z⟩, fun x H3 y3 => ?_⟩
        obtain ⟨g3, l3, R3, r3⟩ := yld x H3 y3
        rw [eq, List.drop_eq_getElem_cons hlt] at p1
        rw [List.drop_eq_getElem_cons hlt] at eq
        unfold goLc at p1 eq
        cases q1 : t ds[i] (wipeL e vs) h2 with
        | none => rw [q1] at p1; exact p1.elim
        | some e3 =>
          rw [q1] at p1 eq
          dsimp only at p1 eq
          have lf3 := lf.trans l3.lf
          refine ⟨g3, ds[i], wipeL e vs, h2, e3, R3, E1.monoF lf3, r3, q1, fun σ3 E3 K3 => ⟨wipe_kp K3 hw, ?_⟩⟩
          refine ⟨g3, e3, h2, R3, E3, ?_⟩
          cases q2 : ct e3 h2 with
          | bad => rw [q2] at p1; exact p1.elim
          | exc k pp h3 => rw [q2] at p1; exact p1.elim
          | ok b h3 =>
            rw [q2] at p1 eq
            intro g4 H4 l4 R4
            have lf4 := lf3.trans l4.lf
            have hx4 : g4.x = upd g1.x D (.lst acc) := l4.x.trans l3.x
            have ra4 : RepL c g4 acc accD := (ra.mono l3).mono l4
            dsimp only [noX] at p1 eq
            rw [ok_bind] at p1 eq
            obtain ⟨F4, m4, x4⟩ := g4
            cases hx4
            cases b with
            | false =>
              dsimp only at p1 eq
              rw [if_neg Bool.false_ne_true]
              exact ⟨F4, m4, h3, acc, accD, lf4, R4, ra4, Nat.le_succ_of_le hal, eq⟩
            | true =>
              dsimp only at p1 eq
              rw [if_pos rfl]
              refine ⟨_, e3, h3, R4, E3.mono l4, ?_⟩
              cases q3 : ce e3 h3 with
              | bad => rw [q3] at p1; exact p1.elim
              | exc k pp h4 => rw [q3] at p1; exact p1.elim
              | ok y h4 =>
                rw [q3] at p1 eq
                intro g5 v5 H5 l5 R5 r5
                have lf5 := lf4.trans l5.lf
                have hx5 : g5.x = upd g1.x D (.lst acc) := l5.x
                have ra5 : RepL c g5 acc accD := ra4.mono l5
                dsimp only [noX] at p1 eq
                rw [ok_bind] at p1 eq
                obtain ⟨F5, m5, x5⟩ := g5
                cases hx5
                have hDx : (⟨F5, m5, upd g1.x D (.lst acc)⟩ : G).x D = some (.lst acc) := upd_same
                obtain ⟨n0, _, _⟩ := R5.pr D _ hDx
                refine ⟨acc, n0, by rw [lim_eq]; omega, ?_⟩
                have R6 := R5.onX hDx (.lst (acc ++ [v5]))
                have eu : upd (upd g1.x D (.lst acc)) D (.lst (acc ++ [v5])) = upd g1.x D (.lst (acc ++ [v5])) := upd_upd
                have R6' : Rel c ⟨F5, m5, upd g1.x D (.lst (acc ++ [v5]))⟩ (upd H5 D (.lst (acc ++ [v5]))) h4 := by
                  rw [← eu]; exact R6
                have lfx := lf_x F5 m5 (upd g1.x D (.lst acc)) (upd g1.x D (.lst (acc ++ [v5])))
                refine ⟨F5, m5, h4, acc ++ [v5], accD ++ [y], lf5.trans lfx, R6', (ra5.monoF lfx).append (.cons (r5.monoF lfx) .nil), by simp; omega, ?_⟩
                rw [eq, Pi.R.bind_assoc]
                congr 1
                funext ys h5
                rw [ok_bind, List.append_assoc]
                rfl
      · left
        refine ⟨ok.stop _ H2 h2 i lf R2 (by omega), ?_⟩
        rw [eq, List.drop_eq_nil_of_le (by omega)] at p1
        unfold goLc at p1
        rw [ok_bind, List.append_nil] at p1
        exact lc_fin p1 hx0 lf R2 ra
    · rw [if_neg hl] at p1; exact p1.elim

/-- no test -/
def tAll : IT := fun _ h => .ok true h
theorem pts_0 : PTs X [] (tT c W0 tAll) := ⟨fun pins s σ H Q I ⟨g, e, h, R, E, p⟩ => pts_nil.run pins s σ H Q I (p g H (.refl g) R)⟩
theorem pts_1 {a : Expr} {ta : IT} (h : PT X a (tT c W0 ta)) : PTs X [a] (tT c W0 ta) := pts_one h
theorem Ctx.blk {n : Nat} (cx : Ctx X c W n) (s : Shared) (H : Hp) (scope : Scope) (cenv : Env) (fp : List Addr) : Ctx (X.blk s H scope cenv fp) c W0 n := ⟨cx.K, cx.mg, takes0, cx.nd, cx.calm, cx.room⟩
section
variable {elt tg iter : Expr} {ifs : List Expr} {scope : Scope} {own : List (Str × Nat)} {pos : Pos} {ci : II} {t : TGI} {ws : List Nat} {ct : IT} {ce : IE}
theorem pi_lc (live : Bool) (N' : List Str) (sc' : Scope) {n : Nat} (cx : Ctx X c W n) (hi : PI X tg iter (tII c W ci)) (ok : blkC N' sc' scope own = true) (hw : ∀ i ∈ ws, i ∈ own.map (·.2))
    (hb : ∀ (Y : Cx), Ctx Y c W0 n → (∃ s H C cl fp, Y = X.blk s H scope (compEnvC scope cl C X.env) fp) → PG Y tg (gI c ws t) ∧ PTs Y ifs (tT c W0 ct) ∧ PE Y elt (tI c W0 ce))
    (hs : ∀ x, foldedSetIterable iter X.env x = pure x := by intro _; rfl) (hN' : X.N = N' := by rfl) (hsc' : X.env.scope = sc' := by rfl) : PE X (.ListComp elt [⟨tg, iter, ifs, 0⟩] scope pos) (tI c W (cLc live (own.map (·.2)) ci t ct ce)) :=
  (pe_lc cx.calm cx.nd hi (blkOk_by (by rw [hN', hsc']; exact ok)) (fun s H C cl fp => (hb _ (cx.blk s H scope _ fp) ⟨s, H, C, cl, fp, rfl⟩).1) (fun s H C cl fp => (hb _ (cx.blk s H scope _ fp) ⟨s, H, C, cl, fp, rfl⟩).2.1) (fun s H C cl fp => (hb _ (cx.blk s H scope _ fp) ⟨s, H, C, cl, fp, rfl⟩).2.2) hs).imp fun _ _ _ h => tLc_of hw h
theorem s_setLc (live : Bool) (N' : List Str) (sc' : Scope) {n i : Nat} {y : Str} {py spos : Pos} (cx : Ctx X c W n) (hi : PI X tg iter (tII c W ci)) (ok : blkC N' sc' scope own = true) (hw : ∀ i ∈ ws, i ∈ own.map (·.2))
    (hb : ∀ (Y : Cx), Ctx Y c W0 n → (∃ s H C cl fp, Y = X.blk s H scope (compEnvC scope cl C X.env) fp) → PG Y tg (gI c ws t) ∧ PTs Y ifs (tT c W0 ct) ∧ PE Y elt (tI c W0 ce))
    (hy : X.N[i]? = some y := by rfl) (hyl : X.env.scope.names.lookup y = some .local := by rfl)
    (hsw : swapsWith (.ListComp elt [⟨tg, iter, ifs, 0⟩] scope pos) (some (.Name y py)) spos.line X.env = pure true := by exact sw_true rfl rfl rfl (by decide +kernel))
    (hs : ∀ x, foldedSetIterable iter X.env x = pure x := by intro _; rfl) (hN' : X.N = N' := by rfl) (hsc' : X.env.scope = sc' := by rfl) : PS X (.Assign [.Name y py] (.ListComp elt [⟨tg, iter, ifs, 0⟩] scope pos) spos) (tS c W (sSet i (cLc live (own.map (·.2)) ci t ct ce))) := by
  refine (ps_setLc cx.calm cx.nd hy hyl hsw hi (blkOk_by (by rw [hN', hsc']; exact ok)) (fun s H C cl fp => (hb _ (cx.blk s H scope _ fp) ⟨s, H, C, cl, fp, rfl⟩).1) (fun s H C cl fp => (hb _ (cx.blk s H scope _ fp) ⟨s, H, C, cl, fp, rfl⟩).2.1) (fun s H C cl fp => (hb _ (cx.blk s H scope _ fp) ⟨s, H, C, cl, fp, rfl⟩).2.2) hs).imp fun De σ H ⟨g, e, h, R, E, p⟩ => ?_
  refine tLc_of hw ⟨g, e, h, R, E, toS_E E p fun d h1 g1 v H1 l R1 r1 p1 => ?_⟩
  exact p1 g1 _ H1 (.refl _) R1 ((E.mono l).set i r1)
end
end
end Pi
end
section
set_option maxRecDepth 100000
set_option autoImplicit false
/-! Pi11: list(reversed(xs)), walks over a text, list(xs), targets that are fields, callees that are computed. -/
namespace PiL
open PySem PySem.Spec PyProof.Rows
section
variable {prog : Program} {w : World} {A : Around} {E : Value → Shared → Prop} {s : Shared}
theorem list_init_rev {R : Result → Shared → Prop} {it l : Addr} {items : Array Value} (hh : A.handled = none) (hit : s.heap.IsRevIter it l ((items.size : Int) - 1)) (hl : s.heap.IsList l items) (hne : l ≠ it) (hn : items.size ≤ sizeLine)
    (S : Addr) (hS : s.heap.get? S = some { cls := .type "list", data := .seq #[] }) (hSi : S ≠ it) (hSl : S ≠ l)
    (hR : ∀ h' tk acc c, (∀ b o, b ≠ it → b ≠ S → s.heap.get? b = some o → h'.get? b = some o) → h'.get? S = some { cls := .type "list", dict := none, data := .seq acc c, slots := #[] } →
      ItemsOf (fun i v => items[items.size - 1 - i]? = some v) acc items.size → R (.ok (.ret .none)) { s with heap := h', toks := tk }) :
    wpAny (model prog w) A.in1 (Builtin.«list.__init__» ⟨[.ref S, .ref it], []⟩)
      (fun fin s' => match fin with | .done f => R (.ok f) s' | .again c' => c'.quiet = true ∧ codeAny (model prog w) A c' R s') (fun e s' => R (.error e) s') s := by
  have W := (Walks.listRev (prog := prog) (w := w) (A := A.in1) hh it l hne items).toS
  have hSf : S ∉ [it, l] := by simp only [List.mem_cons, List.not_mem_nil, or_false, not_or]; exact ⟨hSi, hSl⟩
  show wpAny _ _ (do let old ← Builtin.List.listItems (.ref S); Builtin.List.listUpdate (.ref S) (fun _ => #[]); letGo old.toList.reverse; Builtin.List.listExtendWith (.ref S) (.ref it) .none) _ _ s
  refine wpAny_bind ?_
  unfold Builtin.List.listItems
  refine wpAny_bind (wpAny_seqItems hS rfl (wpAny_pure ?_))
  show wpAny _ _ (updateSeq S (fun _ => #[]) >>= fun _ => letGo (#[] : Array Value).toList.reverse >>= fun _ => Builtin.List.listExtendWith (.ref S) (.ref it) .none) _ _ s
  refine wpAny_bind (wpAny_updateSeq hS rfl ?_)
  have hS₂ := Heap.get?_update_self (Obj.mapSeq (fun _ => (#[] : Array Value))) hS rfl
  have oth : ∀ b o, b ≠ S → s.heap.get? b = some o → (s.heap.update S (Obj.mapSeq (fun _ => (#[] : Array Value)))).get? b = some o :=
    fun b o hb e => (Heap.get?_update_other _ _ (Ne.symm hb)).trans e
  refine wpAny_bind (wpAny_letGo ?_)
  have hit1 : (s.heap.update S (Obj.mapSeq (fun _ => (#[] : Array Value)))).IsRevIter it l ((items.size : Int) - 1) := hit.at fun o e => oth _ _ (Ne.symm hSi) e
  have hl1 : (s.heap.update S (Obj.mapSeq (fun _ => (#[] : Array Value)))).IsList l items := by
    obtain ⟨o, ho, r⟩ := hl
    exact ⟨o, oth _ _ (Ne.symm hSl) ho, r⟩
  generalize hg : s.heap.update S (Obj.mapSeq (fun _ => (#[] : Array Value))) = hp at *
  have hT : ({ s with heap := hp } : Shared).TypeIs (.ref it) "list_reverseiterator" := Heap.IsRevIter.typeIs (s := { s with heap := hp }) hit1
  have h1 : Builtin.List.listSameRef (.ref S) (.ref it) = false := by simp [Builtin.List.listSameRef, hSi]
  unfold Builtin.List.listExtendWith
  refine wpAny_bind (wpAny_typeOf hT ?_)
  rw [if_neg (by rw [h1]; decide)]
  refine wpAny_bind (wpAny_pyIter_revIter (s := { s with heap := hp }) hit1 ?_)
  refine wpAny_bind (wpAny_holding ?_)
  unfold Builtin.List.listLengthHint
  refine wpAny_bind (wpAny_specialOf hT RT.nolen_lri ?_)
  show wpAny _ A.in1 (specialOf (Value.ref it) (Str.ofString "__length_hint__") >>= _) _ _ _
  refine wpAny_bind (wpAny_specialOf hT RT.hint_lri ?_)
  generalize hid : ("list_reverseiterator.__length_hint__" : String) = id0
  wp_delta
  rw [show splitId id0 = some ("list_reverseiterator", "__length_hint__") from by subst hid; decide +kernel]
  subst hid
  refine wpAny_bind (wpAny_isInstance (b := true) hT (by rw [isSubtype_type]; kernel_rfl) ?_)
  refine wpAny_pure ?_
  rw [if_neg (by decide)]
  have e0 : ((items.size : Nat) : Int) - 1 - ((0 : Nat) : Int) = (items.size : Int) - 1 := by omega
  refine wpAny_pure ⟨plainId_quiet F.plain_extend_loop _, codeAny_extend_loopS W hn S hSf _ items.size 0 _ _ _ rfl (Nat.zero_le _) ⟨Nat.zero_le _, by rw [e0]; exact hit1, hl1⟩ hS₂ (ItemsOf.nil _) fun s' acc' c' hm hS' hacc => ?_⟩
  rw [Moved.eq_with hm]
  refine hR s'.heap s'.toks acc' c' (fun b o hb hb2 e => hm.heap b o (fun hmem => ?_) (oth b o hb2 e)) hS' hacc
  rcases List.mem_cons.mp hmem with e' | hmem
  · exact hb2 e'
  · exact hb (List.mem_singleton.mp hmem)
theorem call_list_rev {it l : Addr} {items : Array Value} {Q : Value → Shared → Prop} (hh : A.handled = none) (hit : s.heap.IsRevIter it l ((items.size : Int) - 1)) (hl : s.heap.IsList l items) (hne : l ≠ it) (hn : items.size ≤ sizeLine)
    (hQ : ∀ h' tk acc c, (∀ b o, b ≠ it → s.heap.get? b = some o → h'.get? b = some o) →
      h'.get? s.heap.objs.size = some { cls := .type "list", dict := none, data := .seq acc c, slots := #[] } → ItemsOf (fun i v => items[items.size - 1 - i]? = some v) acc items.size → Q (.ref s.heap.objs.size) { s with heap := h', toks := tk }) :
    wpAny (model prog w) A (call (.type "list") [.ref it]) Q E s := by
  obtain ⟨oi, hoi, _⟩ := id hit
  obtain ⟨ol, hol, _⟩ := id hl
  have hSi : s.heap.objs.size ≠ it := Nat.ne_of_gt (Heap.lt_size hoi)
  have hSl : s.heap.objs.size ≠ l := Nat.ne_of_gt (Heap.lt_size hol)
  refine callType_codes (Q₁ := fun obj s₁ => obj = .ref s.heap.objs.size ∧ s₁ = { s with heap := s.heap.push { cls := .type "list", data := .seq #[] } }) F.called_list (F.typeCall_list_1 _) F.entry_list_init
    (code_list_new _ ⟨rfl, rfl⟩) fun obj s₁ h₁ => ?_
  obtain ⟨rfl, rfl⟩ := h₁
  have hS : (s.heap.push { cls := .type "list", data := .seq #[] }).get? s.heap.objs.size = some { cls := .type "list", data := .seq #[] } := Heap.get?_push_size _ rfl
  refine ⟨⟨_, hS, rfl⟩, F.args_list_init_2 _ _, list_init_rev (A := A.in1) hh (hit.at fun o e => Heap.get?_push_of_some _ e) (hl.push _) hne hn _ hS hSi hSl fun h' tk acc' c' hk hS' hacc => ?_⟩
  exact ⟨rfl, hQ h' tk acc' c' (fun b o hb e => hk b o hb (Nat.ne_of_lt (Heap.lt_size e)) (Heap.get?_push_of_some _ e)) hS' hacc⟩
end
end PiL
namespace Pi
open PySem PySem.Spec PyProof.Rows L2
section
variable {X : Cx} {c : Cn} {W : WX}
/-! ### list(reversed(xs)) -/
def tLstRev (K : PySem.W.Frag) (te : TE) : TE := fun σ H Q => te σ H fun v H1 => ∃ (a : Addr) (xs : List V), v = .ref a ∧ SqL K H1 a xs ∧ ∀ q, H1 q = none → Q (.ref q) (upd H1 q (.lst xs.reverse))
theorem pe_lstRev {e : Expr} {te : TE} {p p2 pos pos2 : Pos} (hc : X.calm = true) (hg : Gl X "list") (hm : X.mg "list" = none) (hg2 : Gl X "reversed") (hm2 : X.mg "reversed" = none) (he : PE X e te)
    (hs : starEach [e] X.env = (false, eval e X.env) :: starEach [] X.env := by rfl)
    (hs2 : starEach [.Call (.Name "reversed" p2) [e] [] pos2] X.env = (false, eval (.Call (.Name "reversed" p2) [e] [] pos2) X.env) :: starEach [] X.env := by rfl) :
    PE X (.Call (.Name "list" p) [.Call (.Name "reversed" p2) [e] [] pos2] [] pos) (tLstRev X.K te) := by
  refine ⟨fun pins s σ H Q I h => ?_⟩
  refine Call_ (ld_blt I hg hm boot_list (PyProof.Rows.callWith_type1 (args_cons (Call_ (ld_blt I hg2 hm2 PyProof.Rows.boot_reversed (PyProof.Rows.callWith_type1 (args_cons (thn (he.run pins s σ H _ I h) fun u s1 ⟨v, H1, I1, r1, q1⟩ => args_nil ?_) hs) hs rfl))) hs2) hs2 rfl))
  obtain ⟨a, xs, ev, hq, q⟩ := q1
  subst ev
  obtain rfl : u = Value.ref a := r1
  obtain ⟨its, rv, p', hz⟩ := I1.list hq
  refine call_reversed_list p'.isList (args_nil ?_)
  have k0 : ∀ b o, s1.heap.get? b = some o → (s1.heap.push (revObj a ((its.toArray.size : Int) - 1))).get? b = some o := fun b o e => Heap.get?_push_of_some _ e
  have I2 : Inv X pins σ H1 { s1 with heap := s1.heap.push (revObj a ((its.toArray.size : Int) - 1)) } := I1.kept (t' := s1.toks) k0
  obtain ⟨f0, f1, f2, f3, f4, f5⟩ := I1.fpOk (H' := H1) (b := s1.heap.objs.size) (Nat.le_refl _) (I1.hok.fresh (Nat.le_refl _))
  have hl := p'.isList
  obtain ⟨ol, hol, _⟩ := id hl
  have hne : a ≠ s1.heap.objs.size := Nat.ne_of_lt (Heap.lt_size hol)
  have hn : its.toArray.size ≤ sizeLine := by rw [List.size_toArray, ← rv.length]; exact hz
  refine PiL.call_list_rev (s := { s1 with heap := s1.heap.push (revObj a ((its.toArray.size : Int) - 1)) }) (I1.ok.hd hc) ⟨_, Heap.get?_push_size _ rfl, rfl, rfl⟩ (hl.push _) hne hn fun h' tk acc c' hk hS hi => ?_
  have hsz : (s1.heap.push (revObj a ((its.toArray.size : Int) - 1))).objs.size = s1.heap.objs.size + 1 := Heap.size_push ..
  have hS' : h'.get? (s1.heap.objs.size + 1) = some { cls := .type "list", dict := none, data := .seq acc c', slots := #[] } := by rw [← hsz]; exact hS
  have hfr : H1 (s1.heap.objs.size + 1) = none := I1.hok.fresh (Nat.le_succ _)
  refine ⟨.ref (s1.heap.objs.size + 1), upd H1 (s1.heap.objs.size + 1) (.lst xs.reverse), ?_, ?_, q _ hfr⟩
  · refine I1.turnedNew (ch := [s1.heap.objs.size]) (T := s1.heap.objs.size + 1) (ob := .lst xs.reverse) (h' := h') (t' := tk) (fun b o hb e => hk b o (fun z => hb (by simp [z])) (Heap.get?_push_of_some _ e)) (fun b hb => ?_) (Nat.le_succ _) ⟨by rw [List.length_reverse]; exact hz, acc.toList, c', RT.vals_rev rv hi, ?_⟩
    · obtain rfl : b = s1.heap.objs.size := by simpa using hb
      exact ⟨f0, f1, f2, f3, f4, f5⟩
    · rw [Array.toArray_toList]
      exact hS'
  · show Value.ref _ = _
    rw [hsz]
/-- list(reversed(xs)): a new list -/
def cLstRev (live : Bool) (a : IE) : IE := fun e h => (a e h).bind fun d h1 => match lk h1 d with
  | .lst ds => finLc live ds.reverse h1
  | _ => .bad
theorem new_fin {live : Bool} {g : G} {H : Hp} {h : Hs} {ds : List D} {vs : List V} {Q : VK} {Wx : XK} (R : Rel c g H h) (r : RepL c g vs ds) (p : Pst c g Q Wx (finLc live ds h)) (a : Addr) (ha : H a = none) : Q (.ref a) (upd H a (.lst vs)) := by
  cases live with
  | true => exact new_lstL R r p a ha
  | false => exact new_lst R r p a ha
theorem pi_lstRev (live : Bool) {n : Nat} {e : Expr} {ce : IE} {p p2 pos pos2 : Pos} (cx : Ctx X c W n) (k : c.mg "list" = none) (k2 : c.mg "reversed" = none) (he : PE X e (tI c W ce)) (hg : Gl X "list" := by rfl) (hg2 : Gl X "reversed" := by rfl) 
    (hs : starEach [e] X.env = (false, eval e X.env) :: starEach [] X.env := by rfl)
    (hs2 : starEach [.Call (.Name "reversed" p2) [e] [] pos2] X.env = (false, eval (.Call (.Name "reversed" p2) [e] [] pos2) X.env) :: starEach [] X.env := by rfl) :
    PE X (.Call (.Name "list" p) [.Call (.Name "reversed" p2) [e] [] pos2] [] pos) (tI c W (cLstRev live ce)) := by
  refine (pe_lstRev cx.calm hg (by rw [cx.mg]; exact k) hg2 (by rw [cx.mg]; exact k2) he hs hs2).imp fun σ H Q ⟨g, e, h, R, E, p⟩ => ?_
  refine ⟨g, e, h, R, E, bind_EE (r := ce e h) p fun d h1 g1 v H1 l1 R1 r1 p1 => ?_⟩
  have vw := lk_vw R1 r1
  generalize lk h1 d = w at vw p1
  cases w with
  | lst ds =>
    obtain ⟨a, xs, rfl, hH, rl⟩ := vw
    exact ⟨a, xs, rfl, SqL.of hH, fun q hq => new_fin R1 rl.reverse p1 q hq⟩
  | _ => exact p1.elim
/-! ### list(xs), xs a list or a tuple -/
def opLst (live : Bool) (h : Hs) : List D → R D
  | [d] => match seqOf h d with
    | some ds => finLc live ds h
    | none => .bad
  | _ => .bad
def cB2 (op : Hs → List D → R D) (a : IA) : IE := fun e h => (a e h).bind fun ds h1 => op h1 ds
theorem pi_list1 (live : Bool) {n : Nat} {e : Expr} {ca : IA} {p pos : Pos} (cx : Ctx X c W n) (k : c.mg "list" = none) (ha : PA X [e] (tA c W ca)) (hg : Gl X "list" := by rfl)
    (he : starEach [e] X.env = (false, eval e X.env) :: starEach [] X.env := by rfl) (hpl : (backTo pos (starEach [] X.env)).any (·.1) = false := by rfl) : PE X (.Call (.Name "list" p) [e] [] pos) (tI c W (cB2 (opLst live) ca)) := by
  refine (pe_callTy call_list_of hg (by rw [cx.mg]; exact k) boot_list ha (by decide) (by decide) he hpl).imp fun σ H Q ⟨g, e, h, R, E, p⟩ => ?_
  refine ⟨g, e, h, R, E, bind_AE (r := ca e h) p fun ds h1 g1 vs H1 l1 R1 r1 p1 => ?_⟩
  rcases ds with _ | ⟨d, _ | ⟨d2, ds⟩⟩
  · exact p1.elim
  · obtain ⟨v, rfl, rv⟩ := repL1 r1
    have vw := lk_vw R1 rv
    unfold opLst seqOf at p1
    dsimp only at p1
    generalize lk h1 d = w at vw p1
    cases w with
    | lst ds =>
      obtain ⟨a, xs, rfl, hH, rl⟩ := vw
      exact ⟨a, xs, rfl, .inl (SqL.of hH), fun l hl => new_fin R1 rl p1 l hl⟩
    | tup ds =>
      obtain ⟨a, xs, rfl, hH, rl⟩ := vw
      exact ⟨a, xs, rfl, .inr (by rw [cx.K]; exact hH), fun l hl => new_fin R1 rl p1 l hl⟩
    | _ => exact p1.elim
  · exact p1.elim
/-! ### a walk over a text -/
theorem its_ok {g : G} {cs : List Nat} : ItOk c (Its (sOf cs)) g (cs.map fun k => D.str [k]) := by
  refine ⟨fun g' H h i d l R hd => ?_, fun g' H h i l R hi => ?_⟩
  · rw [List.getElem?_map] at hd
    cases hk : cs[i]? with
    | none => rw [hk] at hd; cases hd
    | some k =>
      rw [hk] at hd
      cases hd
      have hi := (List.getElem?_eq_some_iff.mp hk).1
      refine ⟨by show i < cs.toArray.size; simpa using hi, fun y H' hy => ?_⟩
      obtain ⟨e1, k', hk', rfl⟩ := hy
      have e1' : H' = H := e1
      subst e1'
      have hk2 : cs.toArray[i]? = some k' := hk'
      rw [List.getElem?_toArray, hk] at hk2
      cases hk2
      exact ⟨g', .refl _, R, .str [k]⟩
  · have hi' : cs.length ≤ i := by simpa using hi
    show cs.toArray.size ≤ i
    simpa using hi'
def cItStr (a : IE) : II := fun e h => (a e h).bind fun d h1 => match d with
  | .str cs => .ok (cs.map fun k => D.str [k]) h1
  | _ => .bad
theorem i_str {tg iter : Expr} {ce : IE} (he : PE X iter (tI c W ce)) : PI X tg iter (tII c W (cItStr ce)) := by
  refine PI.imp (L2.pi_str (tg := tg) he) fun σ H Q ⟨g, e, h, R, E, p⟩ => ?_
  refine ⟨g, e, h, R, E, ?_⟩
  unfold cItStr at p
  cases q : ce e h with
  | bad => rw [q] at p; exact p.elim
  | exc k pp h1 => rw [q] at p; exact p
  | ok d h1 =>
    rw [q] at p
    dsimp only [Pi.R.bind] at p
    intro g1 v H1 l1 R1 r1
    cases d with
    | str cs =>
      cases r1
      exact ⟨_, rfl, p g1 H1 _ l1 R1 its_ok⟩
    | _ => exact p.elim
end
end Pi
end
section
set_option maxRecDepth 100000
set_option autoImplicit false
/-! Pi12: targets that are fields, callees that are computed. -/
namespace Pi
open PySem PySem.Spec PyProof.Rows L2
section
variable {X : Cx} {c : Cn} {W : WX}
/-! ### targets that may change the small heap -/
abbrev TGH := D → Lv → Hs → Option (Lv × Hs)
abbrev TGsH := List D → Lv → Hs → Option (Lv × Hs)
def gH (c : Cn) (t : TGH) : TG := fun v σ H Q => ∃ g d e h e' h', Rel c g H h ∧ EnvR c g σ e ∧ Rep c g v d ∧ t d e h = some (e', h') ∧ ∀ g' σ' H', g.le g' → Rel c g' H' h' → EnvR c g' σ' e' → Q σ' H'
def gsH (c : Cn) (t : TGsH) : TGs := fun vs σ H Q => ∃ g ds e h e' h', Rel c g H h ∧ EnvR c g σ e ∧ RepL c g vs ds ∧ t ds e h = some (e', h') ∧ ∀ g' σ' H', g.le g' → Rel c g' H' h' → EnvR c g' σ' e' → Q σ' H'
def hUp (t : TGI) : TGH := fun d e h => (t d e h).map fun e' => (e', h)
theorem gh_up {tg : Expr} {t : TGI} {ws : List Nat} (h : PG X tg (gI c ws t)) : PG X tg (gH c (hUp t)) := by
  refine PG.imp h fun v σ H Q ⟨g, d, e, h, e', h', R, E, r, ht, q⟩ => ?_
  unfold hUp at ht
  cases q1 : t d e h with
  | none => rw [q1] at ht; cases ht
  | some e1 =>
    rw [q1] at ht
    cases ht
    exact ⟨g, d, e, h, _, R, E, r, q1, fun σ' E' _ => q g σ' H (.refl _) R E'⟩
def hFld (k i : Nat) (o : IE) : TGH := fun d e h => match o e h with
  | .ok x h1 => match insAt h1 k x with
    | some (n, fs) => match putD fs i d with
      | some fs' => some (e, h1.set n (.ins k fs'))
      | none => none
    | none => none
  | _ => none
theorem gh_fld {o : Expr} {co : IE} {f : Str} {pos : Pos} {k i : Nat} (hK : X.K = c.K) (F : FldI c k f i) (ho : PE X o (tI c W co)) : PG X (.Attribute o f pos) (gH c (hFld k i co)) := by
  obtain ⟨cl, C, hc, hC, hcl, hno, hf, nd, hl⟩ := F.ex
  refine ⟨fun pins s σ H v u Q I r h => ?_⟩
  obtain ⟨g, d, e, h, e', h', R, E, rv, ht, q⟩ := h
  rw [assign_Attribute]
  unfold hFld at ht
  cases q1 : co e h with
  | bad => rw [q1] at ht; cases ht
  | exc => rw [q1] at ht; cases ht
  | ok x h1 =>
    rw [q1] at ht
    dsimp only at ht
    cases q2 : insAt h1 k x with
    | none => rw [q2] at ht; cases ht
    | some nf =>
      obtain ⟨n, fs⟩ := nf
      rw [q2] at ht
      dsimp only at ht
      obtain ⟨rfl, e1⟩ := insAt_ok q2
      cases q3 : putD fs i d with
      | none => rw [q3] at ht; cases ht
      | some fs' =>
        rw [q3] at ht
        cases ht
        refine wpAny_bind (wpAny_holding (thn (ho.run pins s σ H (fun x H1 => ∃ g1 a dx xs, g.le g1 ∧ x = .ref a ∧ g1.m[n]? = some a ∧ g1.F a = none ∧ H1 a = some (.ins C dx (cl.fields.zip xs)) ∧ RepL c g1 xs fs ∧ xs.length ≤ cl.fields.length ∧ Rel c g1 H1 h1) I ⟨g, e, h, R, E, ?_⟩) fun ov s1 ⟨x, H1, I1, rx, g1, a, dx, xs, l1, ex, hn, hF, hH, rl, hlen, R1⟩ => ?_))
        · rw [q1]
          intro g1 v1 H1 l1 R1 r1
          obtain ⟨a, dx, xs, rfl, hn, hF, hH, rl, hlen⟩ := rel_ins R1 r1 e1 hc hC
          exact ⟨g1, a, dx, xs, l1, rfl, hn, hF, hH, rl, hlen, R1⟩
        · subst ex
          obtain rfl : ov = Value.ref a := rx
          refine wpAny_bind (wpAny_standAt (wpAny_bind (wpAny_holding (setattr_ok I1 hH (by rw [hK]; exact hcl) (by rw [hK]; exact hno) (by rw [zip_len hlen]; omega) r fun s3 I3 => ?_))))
          exact wpAny_release ⟨σ, _, I3, q g1 σ _ l1 (put_ins R1 hc hC nd hf hn hF hH rl hlen (rv.mono l1) q3) (E.mono l1)⟩
def hNil : TGsH := fun ds e h => match ds with
  | [] => some (e, h)
  | _ => none
def hCons (t : TGH) (u : TGsH) : TGsH := fun ds e h => match ds with
  | d :: r => (t d e h).bind fun p => u r p.1 p.2
  | [] => none
theorem ghs_nil : PGs X [] (gsH c hNil) := by
  refine PGs.imp pgs_nil fun vs σ H Q ⟨g, ds, e, h, e', h', R, E, r, ht, q⟩ => ?_
  cases r with
  | nil => cases ht; exact ⟨rfl, q g _ _ (.refl _) R E⟩
  | cons _ _ => cases ht
theorem ghs_cons {e : Expr} {es : List Expr} {t : TGH} {u : TGsH} (h1 : PG X e (gH c t)) (h2 : PGs X es (gsH c u))
    (hs : (assignEach (e :: es) X.env).map (·.2) = assign e X.env :: (assignEach es X.env).map (·.2) := by rfl) : PGs X (e :: es) (gsH c (hCons t u)) := by
  refine PGs.imp (pgs_cons h1 h2 hs) fun vs σ H Q ⟨g, ds, e, h, e', h', R, E, r, ht, q⟩ => ?_
  cases r with
  | nil => cases ht
  | @cons v d vs ds r rs =>
    unfold hCons at ht
    dsimp only at ht
    cases ht1 : t d e h with
    | none => rw [ht1] at ht; cases ht
    | some p =>
      obtain ⟨e1, h1⟩ := p
      rw [ht1] at ht
      exact ⟨v, vs, rfl, g, d, e, h, e1, h1, R, E, r, ht1, fun g' σ' H' l R' E' => ⟨g', ds, e1, h1, e', h', R', E', rs.mono l, ht, fun g2 σ2 H2 l2 R2 E2 => q g2 σ2 H2 (l.trans l2) R2 E2⟩⟩
def hTup (n : Nat) (u : TGsH) : TGH := fun d e h => (seqOf h d).bind fun ds => if ds.length = n then u ds e h else none
theorem gh_tup {es : List Expr} {k n : Nat} {u : TGsH} {pos : Pos} (hK : X.K = c.K) (hc : X.calm = true) (hg : PGs X es (gsH c u)) (hn : (assignEach es X.env).length = n := by rfl) (hst : (assignEach es X.env).findIdx? (·.1) = none := by rfl) :
    PG X (.Tuple es k pos) (gH c (hTup n u)) := by
  refine PG.imp (PG.or (pg_tup hc hg hn hst) (pg_lst hc hg hn hst)) fun v σ H Q ⟨g, d, e, h, e', h', R, E, r, ht, q⟩ => ?_
  unfold hTup seqOf at ht
  have vw := lk_vw R r
  generalize lk h d = w at vw ht
  cases w with
  | tup ds =>
    obtain ⟨a, xs, rfl, hH, rl⟩ := vw
    dsimp only [Option.bind] at ht
    by_cases hl : ds.length = n
    · rw [if_pos hl] at ht
      exact .inl ⟨a, xs, rfl, by rw [hK]; exact hH, by rw [rl.length]; exact hl, g, ds, e, h, e', h', R, E, rl, ht, q⟩
    · rw [if_neg hl] at ht; cases ht
  | lst ds =>
    obtain ⟨a, xs, rfl, hH, rl⟩ := vw
    dsimp only [Option.bind] at ht
    by_cases hl : ds.length = n
    · rw [if_pos hl] at ht
      exact .inr ⟨a, xs, rfl, SqL.of hH, by rw [rl.length]; exact hl, g, ds, e, h, e', h', R, E, rl, ht, q⟩
    · rw [if_neg hl] at ht; cases ht
  | _ => cases ht
def sAsgH (t : TGH) (a : IE) : IS := fun e h => (a e h).toS e fun d h1 => match t d e h1 with
  | some p => .next p.1 p.2
  | none => .bad
theorem s_asgH {tg e : Expr} {ce : IE} {t : TGH} {pos : Pos} (he : PE X e (tI c W ce)) (hg : PG X tg (gH c t)) (hs : swapsWithSole [tg] e pos.line X.env = pure false := by rfl) (hw : swappedStores [tg] e X.env = pure none := by rfl)
    (h1 : (assignEach [tg] X.env).map (·.2) = [assign tg X.env] := by rfl) : PS X (.Assign [tg] e pos) (tS c W (sAsgH t ce)) := by
  refine (ps_asg he hg hs hw h1).imp fun De σ H ⟨g, e, h, R, E, p⟩ => ?_
  refine ⟨g, e, h, R, E, toS_E E p fun d h1 g1 v H1 l R1 r1 p1 => ?_⟩
  cases q : t d e h1 with
  | none => rw [q] at p1; exact p1.elim
  | some e' =>
    rw [q] at p1
    exact ⟨g1, d, e, h1, e'.1, e'.2, R1, E.mono l, r1, q, fun g2 σ' H' l2 R' E' => p1 g2 σ' H' l2 R' E'⟩
/-! ### a computed callee -/
def cCallV (tbl : List (Str × (List D → Hs → R D))) (f : IE) (a : IA) : IE := fun e h => (f e h).bind fun d h1 => match d with
  | .glo x => match tbl.lookup x with
    | some fn => (a e h1).bind fun ds h2 => fn ds h2
    | none => .bad
  | _ => .bad
theorem pi_callV {n : Nat} {f e : Expr} {es : List Expr} {cf : IE} {ca : IA} {tbl : List (Str × (List D → Hs → R D))} {pos : Pos} (cx : Ctx X c W n) (F : ∀ x fn, tbl.lookup x = some fn → ∃ ad ps, Def X.prog X.w X.base c n ad ps fn ∧ c.mg x = some (.ref ad)) (hf : PE X f (tI c W cf)) (ha : PA X (e :: es) (tA c W ca))
    (he : starEach (e :: es) X.env = (false, eval e X.env) :: starEach es X.env := by rfl) (hpl : (backTo pos (starEach es X.env)).any (·.1) = false := by rfl)
    (hc : eval (.Call f (e :: es) [] pos) X.env = (do callWith pos (← eval f X.env) [] (backTo pos (starEach (e :: es) X.env)) (backToKw pos (keywordEach [] X.env))) := by rfl) :
    PE X (.Call f (e :: es) [] pos) (tI c W (cCallV tbl cf ca)) := by
  constructor
  rintro pins s σ H Q I ⟨g, ev, h, R, E, q⟩
  refine Call_ (thn (hf.run pins s σ H (fun v H1 => ∃ a g1 h1 fn ad ps, v = .ref ad ∧ a = ad ∧ Rel c g1 H1 h1 ∧ EnvR c g1 σ ev ∧ Def X.prog X.w X.base c n ad ps fn ∧ Pst c g1 Q (WE W σ) ((ca ev h1).bind fun ds h2 => fn ds h2)) I ⟨g, ev, h, R, E, bind_EE (r := cf ev h) q fun d h1 g1 v H1 l1 R1 r1 p1 => ?_⟩) fun u s1 ⟨x, H1, I1, rx, a, g1, h1, fn, ad, ps, ex, _, R1, E1, F, p1⟩ => ?_) hc
  · cases d with
    | glo x =>
      dsimp only at p1
      cases q2 : tbl.lookup x with
      | none => rw [q2] at p1; exact p1.elim
      | some fn =>
        rw [q2] at p1
        obtain ⟨ad, ps, F, hm⟩ := F x fn q2
        cases r1 with
        | glo hm2 =>
          rw [hm] at hm2
          cases hm2
          exact ⟨_, g1, h1, fn, ad, ps, rfl, rfl, R1, E.mono l1, F, p1⟩
    | _ => exact p1.elim
  · subst ex
    obtain rfl : u = Value.ref ad := rx
    obtain ⟨fd, F1, F2⟩ := F.ex
    rw [← cx.K, ← cx.mg] at F1
    rw [← cx.K] at F2
    have hA := ha.run pos pins s1 σ H1 (fun vs H2 => spI c fn vs H2 Q (WE W σ)) I1 ⟨g1, ev, h1, R1, E1, bind_AE p1 fun ds h2 g2 vs H2 l2 R2 r2 p2 => ⟨g2, ds, h2, R2, r2, p2⟩⟩
    refine PySem.W.callWith_K (h₀ := X.base) I1.ok.mod.kin (by rw [cx.K]; exact F.kp) (thn hA fun us s2 hh => ?_) he hpl
    obtain ⟨vs, H2, I2, r, q2⟩ := hh
    exact ⟨I2.kIn, run_fnS (E := WE W) F1 (cx.room.mono (Nat.le_succ _)) F2 (passAt cx.tk σ) I2 r q2⟩
end
end Pi
end
section
set_option maxRecDepth 100000
set_option maxHeartbeats 2000000
set_option autoImplicit false
/-! PiM: Malformed(at), whose __init__ says super().__init__(..) and stores at. -/
namespace PySem
namespace MalX
open PySem.W PySem.Calls PyProof.Rows PySem.HandSPX
def iA (p1 p2 : Pos) : Arguments := { posonlyargs := [], args := [{ arg := "self", annotation := none, pos := p1 }, { arg := "at", annotation := none, pos := p2 }], vararg := none, kwonlyargs := [], kw_defaults := [], kwarg := none, defaults := [] }
/-- the line of super().__init__(..) in the text -/
abbrev mLine : Nat := 15
def iB (m : String) (j : Nat) (q1 q2 : Pos) (c3 d3 : Nat) (q4 : Pos) (c5 d5 : Nat) (q6 q7 q8 q9 q10 : Pos) : List Stmt :=
  [.Expr (.Call (.Attribute (.Call (.Name "super" q1) [] [] q2) "__init__" ⟨mLine, c3, mLine, d3⟩) [.Constant (.str m) j q4] [] ⟨mLine, c5, mLine, d5⟩) q6, .Assign [.Attribute (.Name "self" q7) "at" q8] (.Name "at" q9) q10]
def iS : Scope := { kind := .function, names := [("self", .local), ("at", .local), ("__class__", .free), ("super", .globalImplicit)], isGenerator := false, isCoroutine := false, more := [] }
structure MalTxt (prog : Program) (K : Frag) (mg : Str → Option Value) (C fI : Addr) : Prop where
  gC : mg "Malformed" = some (.ref C)
  nS : mg "super" = none
  top : (prog.main.scope.names.lookup ("super" : Str)).isSome = false
  cls : ∃ nm q N bs bm sn sub ab col dd k0 k1 k2 k3 k5, K.lookup C = some (excClassObj nm q C N bs bm true sn sub ab col dd k0 k1 k2 k3 k5 "ValueError.__new__") ∧ refsVE bm = true ∧ alongIn K "__init__" bm = some (some (.builtin "ValueError.__init__"))
  oq : nsIn K cStatics "thirdparty.any" = some none
  sa : findIn K (.ref C) "__setattr__" = some (some (.builtin "object.__setattr__"))
  ga : findIn K (.ref C) "__getattribute__" = some (some (.builtin "BaseException.__getattribute__"))
  gg : findIn K (.ref C) "__getattr__" = some none
  noN : findIn K (.ref C) "at" = some none
  iC : findIn K (.ref C) "__init__" = some (some (.ref fI))
  tC : typeIn K (.ref fI) = some (.type "function")
  kC : keepIn K (.ref C) = true
  exC : subIn K (.ref C) (.type "BaseException") = some true
  vE : subIn K (.ref C) (.type "ValueError") = some true
  sC : mroIn K C (.ref C) = some true
  tyC : typeIn K (.ref C) = some (.type "type")
  hdC : hasDictIn K C = true
  fn : ∃ (cc cda : Addr) (oc : Value) (od : Option Addr) (doc pm : Value) (an : Option Addr) (ct : Value) (osl : Array (Option Value)) (m : String) (j : Nat) (p1 p2 q1 q2 : Pos) (c3 d3 : Nat) (q4 : Pos) (c5 d5 : Nat) (q6 q7 q8 q9 q10 : Pos) (cl : Value) (cld : Option Addr) (csl : Array (Option Value)) (ccl : Value) (cdd : Option Addr) (vs : Array Value) (ccs : Array (Option Value)) (file : Str) (tf : Tok),
    K.lookup fI = some ⟨oc, od, .func (ksFn "__init__" "Malformed.__init__" (iA p1 p2) (iB m j q1 q2 c3 d3 q4 c5 d5 q6 q7 q8 q9 q10) iS .none .none doc pm an (.ref cda) ct cc), osl⟩ ∧ codeIn K (.ref cda) "Malformed.__init__" = true ∧
    K.lookup cc = some ⟨cl, cld, .cell (some (.ref C)), csl⟩ ∧ K.lookup cda = some ⟨ccl, cdd, .fields vs, ccs⟩ ∧ vs[2]? = some (.str file tf) ∧ ((prog.main.file : Str) == file) = true
/-- what __init__ leaves of a fresh exception at x -/
structure InitEnd (h h' : Heap) (x C dx t1 : Addr) (v : Value) : Prop where
  keep : ∀ b o, b ≠ x → h.get? b = some o → h'.get? b = some o
  obj : h'.get? x = some { cls := .ref C, dict := some dx, data := .fields #[.ref t1, .none, .none, .none, .bool false, .none] }
  dbig : h.objs.size ≤ dx
  dne : dx ≠ x
  ns : h'.Ns1 dx (fun y => if y = "at" then some v else none)
/-- a made one -/
structure OwnMade (h h' : Heap) (e C d : Addr) (v : Value) : Prop where
  keep : ∀ b o, h.get? b = some o → h'.get? b = some o
  new : h.objs.size ≤ e
  obj : ∃ oe vs, h'.get? e = some oe ∧ oe.cls = .ref C ∧ oe.dict = some d ∧ oe.data = .fields vs ∧ vs[1]? = some .none
  dbig : h.objs.size ≤ d
  dne : d ≠ e
  ns : h'.Ns1 d (fun y => if y = "at" then some v else none)
theorem one_size (v : Value) : [v].length ≤ sizeLine := by
  rw [sizeLine_eq]
  exact (by decide : 1 ≤ 16777216)
section
variable {prog : Program} {w : World} {A : Around} {E : Value → Shared → Prop} {h : Heap} {g : Array GenState} {d : Drawn} {t : Nat} {os : OsState}
variable {nm q : Str} {C N : Addr} {bs bm : List Value} {hdct : Bool} {sn : List Str} {sub : List Value} {ab : Bool} {col : Option Bool} {dd : Option Addr} {k0 k1 k2 k3 k5 : Option Value}
theorem call_mw {u e t0 : Addr} {rest : List Value} {Q : Value → Shared → Prop}
    (hC : h.get? C = some (excClassObj nm q C N bs bm hdct sn sub ab col dd k0 k1 k2 k3 k5 "ValueError.__new__")) (he : h.get? e = some (excO C t0)) (hu : h.get? u = some (kxs_mw "ValueError.__init__" e)) (hrest : rest.length ≤ sizeLine)
    (hq : ∀ h' t1, (∀ b o, b ≠ e → h.get? b = some o → h'.get? b = some o) → h'.get? e = some (excO C t1) → Q .none ⟨h', g, d, t, os⟩) :
    wpAny (model prog w) A (call (.ref u) rest) Q E ⟨h, g, d, t, os⟩ := by
  refine wpAny_call (codeAny_of_tree ?_)
  show wpAny _ A.in1 (callAny (.ref u) ⟨rest, []⟩) _ _ _
  simp only [callAny]
  refine wpAny_bind (wpAny_load hu ?_)
  simp only [kxs_mw, show (Value.type "method-wrapper" == Value.type "method" || Value.type "method-wrapper" == Value.type "builtin_function_or_method" || Value.type "method-wrapper" == Value.type "method-wrapper") = true by decide, if_true]
  refine W.KFB.if_so (by decide) ?_
  refine wpAny_bind (check_bound_init (ExcBaseFacts.toExcCallFacts PySem.F.excBase_ValueError) hC he rfl ?_)
  refine wpAny_bind (wpAny_pure (wpAny_pure ?_))
  refine ⟨plainId_quiet PySem.F.excBase_ValueError.init.plain _, codeAny_builtin PySem.F.excBase_ValueError.initEntry ?_⟩
  exact exc_init_tree (cls := .ref C) (t0 := t0) (dv := none) (c2 := .none) (c3 := .none) (b4 := .bool false) he hrest fun h' k e' _ => hq h' _ k e'
end
section
theorem callWith_mw {M : Model} {A : Around} {E : Value → Shared → Prop} {s : Shared} {pos : Pos} {env : Env} {e : Expr} {rest : List Expr} {Q : Value → Shared → Prop} {i : String} {u x : Addr}
    (h : wpAny M A (spliced (backTo pos (starEach (e :: rest) env))) (fun vs s₁ => KxsAt i u x s₁.heap ∧ wpAny M A (call (.ref u) vs) Q E s₁) E s)
    (he : starEach (e :: rest) env = (false, eval e env) :: starEach rest env := by rfl) (hplain : (backTo pos (starEach rest env)).any (·.1) = false := by rfl) :
    wpAny M A (callWith pos (.ref u) [] (backTo pos (starEach (e :: rest) env)) []) Q E s := by
  rw [he] at h ⊢
  refine kxs_callWith (i := i) (x := x) (by show (false || (backTo pos (starEach rest env)).any (·.1)) = false; rw [hplain]; rfl) ?_
  exact evalArgs_plain h
end
section
variable {prog : Program} {w : World} {A : Around} {E : Value → Shared → Prop} {R : Result → Shared → Prop} {s : Shared} {K : Frag} {mg mb : Str → Option Value} {C fI : Addr}
theorem ne_obj {h : Heap} {x C : Addr} {t0 : Addr} {nm q : Str} {N : Addr} {bs bm : List Value} {hdct : Bool} {sn : List Str} {sub : List Value} {ab : Bool} {col : Option Bool} {dd : Option Addr} {k0 k1 k2 k3 k5 : Option Value} {n : String}
    (hx : h.get? x = some (excO C t0)) (hC : h.get? C = some (excClassObj nm q C N bs bm hdct sn sub ab col dd k0 k1 k2 k3 k5 n)) : x ≠ C := by
  rintro rfl
  rw [hx] at hC
  cases hC
theorem mal_init (T : MalTxt prog K mg C fI) {x t0 : Addr} {v : Value} (X : K.In s.heap) (G : s.heap.Ns mainGlobals mg) (B : s.heap.Ns builtinsNs mb) (hb : mb "super" = some (.type "super")) (hlim : s.heap.NoLimit) (hx : s.heap.get? x = some (excO C t0)) (hnx : K.lookup x = none) (hroom : A.depth < recursionLimit)
    (hq : ∀ h' tk dx t1, InitEnd s.heap h' x C dx t1 v → R (.ok (.ret .none)) { s with heap := h', toks := tk }) :
    codeAny (model prog w) A (.call (.ref fI) ⟨[.ref x, v], []⟩) R s := by
  obtain ⟨cc, cda, oc, od, doc, pm, an, ct, osl, m, j, p1, p2, q1, q2, c3, d3, q4, c5, d5, q6, q7, q8, q9, q10, cl, cld, csl, ccl, cdd, cvs, ccs, file, tf, ho, hcd, hcell, hcode, hvs, hfile⟩ := T.fn
  obtain ⟨nm, q, N, bs, bm, sn, sub, ab, col, dd, k0, k1, k2, k3, k5, hC, hbm, hal⟩ := T.cls
  have hcl : clsIn K C = some { name := nm, bases := bs, mro := .ref C :: bm, ns := N, qualname := q, hasDict := true, slotNames := sn, subclasses := sub, abstract := ab, collection := col, hasDel := false } := by unfold clsIn; rw [hC] <;> rfl
  refine ks_codeAny_call_defAt (binds := [("self", .ref x), ("at", v)]) hroom (X _ _ ho) rfl hlim (codeRec_of X hcd) rfl (BindsTo.of_eq (by first | rfl | with_unfolding_all rfl)) (show ∀ x ∈ iS.names, x.2 ≠ .cell by decide) (fun y hy => ?_) (fun h₁ hns k => ?_) rfl rfl rfl
  · rcases List.mem_cons.mp hy with rfl | hy
    · rfl
    · rcases List.mem_cons.mp hy with rfl | hy
      · rfl
      · cases hy
  have X₁ : K.In h₁ := X.keeps k
  have hx₁ := k _ _ hx
  have hC₁ := X₁ _ _ hC
  have hxC : x ≠ C := ne_obj hx₁ hC₁
  have zL : s.heap.objs.size < h₁.objs.size := hns.lt
  refine ks_wpAt_execs_cons (ks_wpAt_Expr_any (ks_wpAt_MethodCall (ks_wpAt_super_base (cc := cda) rfl rfl rfl rfl (X₁ _ _ ho) rfl rfl rfl (X₁ _ _ hcode) rfl hvs hfile T.top ?_)))
  refine ks_loadName_global rfl rfl (Calls.loadGlobal_builtin (G.keeps k) T.nS (B.keeps k) hb ⟨rfl, ?_⟩)
  refine wpAny_loadName_free rfl rfl rfl ⟨_, X₁ _ _ hcell, rfl⟩ ?_
  refine wpAny_loadName_local (v := .ref x) rfl rfl hns (by first | rfl | with_unfolding_all rfl | kernel_rfl) ?_
  refine ks_wpAny_isType_cls hC₁ rfl ⟨rfl, ?_⟩
  refine ks_wpAny_call_super hC₁ rfl hx₁ rfl (fun c e => by cases e) (looks_mroIn X₁ T.sC) (fun h₂ e₂ k₂ => ?_)
  have X₂ : K.In h₂ := X₁.keeps k₂
  have hx₂ := k₂ _ _ hx₁
  have I₂ : InstAt h₂ x (excO C t0) C none := ⟨hx₂, rfl, rfl, trivial⟩
  refine kxs_getMethod kxs_ValueError e₂ (looks_opaque X₂ T.oq) (l₀ := .ref C :: bm) (l := bm) (fun A Q E s k q => wpAny_bind ((looks_clsIn X₂ hcl) A _ E s k (wpAny_pure q))) (by simp [List.dropWhile_cons]) X₂ hal (I₂.type.andThen (looks_subIn X₂ T.vE)) hxC rfl ?_
  have e₃ : (h₂.push (kxs_mw "ValueError.__init__" x)).get? h₂.objs.size = some (kxs_mw "ValueError.__init__" x) := Heap.get?_push_at rfl rfl
  have k₃ : ∀ b o, h₂.get? b = some o → (h₂.push (kxs_mw "ValueError.__init__" x)).get? b = some o := fun b o e => Heap.get?_push_of_some _ e
  refine callWith_mw (i := "ValueError.__init__") (x := x) (u := h₂.objs.size) (PyProof.Rows.args_cons (Calls.Constant_str (PyProof.Rows.args_nil ⟨e₃, ?_⟩)))
  refine call_mw (k₃ _ _ (X₂ _ _ hC)) (k₃ _ _ hx₂) e₃ (one_size _) fun h₄ t₁ k₄ hx₄ => ?_
  have X₄ : K.In h₄ := fun a o e => k₄ a o (fun z => by rw [z, hnx] at e; cases e) (k₃ _ _ (X₂ _ _ e))
  have hLx : s.heap.objs.size ≠ x := Nat.ne_of_gt (Heap.lt_size hx)
  have hns₄ : h₄.Ns s.heap.objs.size (fun y => ([("self", .ref x), ("at", v)] : List (Str × Value)).reverse.lookup y) := by
    obtain ⟨oL, es, ep, hL, r⟩ := hns
    exact ⟨oL, es, ep, k₄ _ _ hLx (k₃ _ _ (k₂ _ _ hL)), r⟩
  refine ks_wpAt_execs_cons (wpAt_of_wpAny (plainObj_wpAny_Assign_Attribute ?_))
  refine wpAny_Name (wpAny_loadName_local (v := v) rfl rfl hns₄ (by first | rfl | with_unfolding_all rfl | kernel_rfl) ?_) (by decide)
  refine wpAny_Name (wpAny_loadName_local (v := .ref x) rfl rfl hns₄ (by first | rfl | with_unfolding_all rfl | kernel_rfl) ?_) (by decide)
  refine set_plain X₄ (ox := excO C t₁) (od := none) ⟨hx₄, rfl, rfl, trivial⟩ T.sa ?_
  refine exc_osa X₄ hx₄ hcl (show refsVE (.ref C :: bm) = true from hbm) rfl T.noN (fun h₅ tk₅ dx k₅ dn dne hx₅ hn₅ => ?_)
  show wpAt _ _ _ (execs [] _) _ _ _
  refine wpAt_of_wpAny (wpAny_execs_nil (hq h₅ tk₅ dx t₁ ⟨fun b o hb e => k₅ b o hb (k₄ b o hb (k₃ _ _ (k₂ _ _ (k b o e)))), hx₅, Nat.le_of_lt (Nat.lt_of_lt_of_le hns₄.lt dn), dne, hn₅⟩))
theorem mal_made (T : MalTxt prog K mg C fI) {v : Value} (X : K.In s.heap) (G : s.heap.Ns mainGlobals mg) (B : s.heap.Ns builtinsNs mb) (hb : mb "super" = some (.type "super")) (hlim : s.heap.NoLimit) (hroom : A.depth + 1 < recursionLimit)
    (hq : ∀ h' tk e d, OwnMade s.heap h' e C d v → R (.ok (.ret (.ref e))) { s with heap := h', toks := tk }) :
    codeAny (model prog w) A (.call (.ref C) ⟨[v], []⟩) R s := by
  obtain ⟨nm, q, N, bs, bm, sn, sub, ab, col, dd, k0, k1, k2, k3, k5, hC, hbm, hal⟩ := T.cls
  obtain ⟨hp, g, dr, tk, os⟩ := s
  have k : ∀ b o, hp.get? b = some o → ((hp.push (kdv_tup [v])).push (excO C hp.objs.size)).get? b = some o := fun b o e => Heap.get?_push_of_some _ (Heap.get?_push_of_some _ e)
  have hget : ((hp.push (kdv_tup [v])).push (excO C hp.objs.size)).get? (hp.objs.size + 1) = some (excO C hp.objs.size) := by heap_get
  have hnx : K.lookup (hp.objs.size + 1) = none := by
    cases e : K.lookup (hp.objs.size + 1) with
    | none => rfl
    | some o =>
      have z : hp.get? (hp.objs.size + 1) = some o := X _ _ e
      exact absurd (Nat.lt_of_succ_lt (Heap.lt_size z)) (Nat.lt_irrefl _)
  refine call_own PySem.F.excBase_ValueError (fun X => refsVE_contains X bm hbm) (X _ _ hC) (looks_findIn X T.iC) (fun self => bind_fn X self T.tC) (one_size v) ?_
  refine mal_init (s := ⟨(hp.push (kdv_tup [v])).push (excO C hp.objs.size), g, dr, tk, os⟩) T (X.keeps k) (G.keeps k) (B.keeps k) hb (hlim.keeps k) hget hnx ?_ fun h' tk' dx t1 ⟨k', hx, dn, dne, hns⟩ => ?_
  · show A.depth + 1 < recursionLimit
    exact hroom
  · have old : ∀ b o, hp.get? b = some o → h'.get? b = some o := fun b o e => k' b o (Nat.ne_of_lt (Nat.lt_succ_of_lt (Heap.lt_size e))) (k b o e)
    have z : hp.objs.size + 1 + 1 ≤ dx := by
      first
        | (simpa only [Heap.size_push] using dn)
        | exact dn
        | (have q := dn; rw [Heap.size_push, Heap.size_push] at q; exact q)
    exact ⟨rfl, hq h' tk' (hp.objs.size + 1) dx ⟨old, Nat.le_succ _, ⟨_, _, hx, rfl, rfl, rfl, rfl⟩, Nat.le_trans (Nat.le_trans (Nat.le_succ _) (Nat.le_succ _)) z, dne, hns⟩⟩
end
end MalX
end PySem
namespace Pi
open PySem PySem.Spec PyProof.Rows L2
theorem relO_at {v : V} {v' : Value} (r : RelV v v') (f : Str) : RelO (List.lookup f [(("at" : Str), v)]) (if f = "at" then some v' else none) := by
  by_cases hw : f = "at"
  · subst hw
    rw [if_pos rfl]
    have q : List.lookup ("at" : Str) [(("at" : Str), v)] = some v := by simp [List.lookup]
    rw [q]
    exact r
  · rw [if_neg hw]
    have qw : (f == ("at" : Str)) = false := by simpa using hw
    have q2 : List.lookup f [(("at" : Str), v)] = none := by simp [List.lookup, qw]
    rw [q2]
    trivial
section
variable {X : Cx} {C fI : Addr}
def tMkMal (C : Addr) (ta : TA) : L2.St → Hp → XK → Prop := fun σ H Q => ta σ H fun vs H1 => ∃ v, vs = [v] ∧ ∀ d, H1 d = none → Q (.ref C) (some d) (upd H1 d (.xd [(("at" : Str), v)]))
theorem pmk_mal {a : Expr} {ta : TA} {p pos : Pos} {k : Nat} (T : PySem.MalX.MalTxt X.prog X.K X.mg C fI) (hr : Room k X.A) (ha : PA X [a] ta) (hg : Gl X "Malformed" := by rfl)
    (he : starEach (a :: []) X.env = (false, eval a X.env) :: starEach [] X.env := by rfl) (hpl : (backTo pos (starEach [] X.env)).any (·.1) = false := by rfl) :
    PMk X (.Call (.Name "Malformed" p) [a] [] pos) (tMkMal C ta) := by
  intro pins s σ H Q I h
  refine wpAny_Call_Name_kw (ld_glob I hg T.gC ?_)
  refine PySem.W.callWith_K (h₀ := X.base) I.ok.mod.kin T.kC (thn (ha.run pos pins s σ H _ I h) fun us s1 hh => ?_) he hpl
  obtain ⟨vs, H1, I1, r1, v, ev, q1⟩ := hh
  subst ev
  refine ⟨I1.kIn, ?_⟩
  cases r1 with
  | cons rv rn =>
    rename_i v' us'
    cases rn
    show wpAny _ _ (call (.ref C) [v']) _ _ _
    have hlim := I1.nolimit
    obtain ⟨mb, b1, b2⟩ := I1.mod.blt
    have G1 := I1.mod.glob.keeps I1.bk
    have B1 := b1.keeps I1.bk
    have hb : mb "super" = some (.type "super") := (b2 "super" (by decide)).trans (by decide +kernel)
    obtain ⟨hp, g, dr, tk, os⟩ := s1
    refine wpAny_call (PySem.MalX.mal_made T I1.kIn G1 B1 hb hlim (by have := hr.dp; omega) fun h' tk' e d M => ?_)
    show MkP X pins σ Q (.ref e) ⟨h', g, dr, tk', os⟩
    obtain ⟨oe, fv, hoe, hc, hd, hdat, h1⟩ := M.obj
    have hns := M.ns
    obtain ⟨G', g1, g2⟩ := restrict h' fun b => decide (b ≠ e)
    have gk : ∀ b, b ≠ e → G'.get? b = h'.get? b := fun b hb => g1 b (decide_eq_true hb)
    have ge : G'.get? e = none := g2 e (by simp)
    have old : ∀ b o, hp.get? b = some o → G'.get? b = some o := fun b o q => (gk b (Nat.ne_of_lt (Nat.lt_of_lt_of_le (Heap.lt_size q) M.new))).trans (M.keep b o q)
    have ob : ObjOk X.prog X.w (upd H1 d (.xd [(("at" : Str), v)])) G' d (.xd [(("at" : Str), v)]) :=
      ⟨_, hns.at (fun o q => (gk d M.dne).trans q), fun f => relO_at rv f⟩
    have J : Inv X pins σ (upd H1 d (.xd [(("at" : Str), v)])) ⟨G', g, dr, tk', os⟩ := I1.laid (t' := tk') old M.dbig ob
    refine ⟨e, oe, fv, ⟨G', g, dr, tk', os⟩, _, .ref C, some d, rfl, J, fun b o q => ?_, ge, hoe, ⟨hc, hd⟩, hdat, h1, ?_, rfl, I1.bare, raises_own T.exC T.tyC, q1 d (I1.hok.fresh M.dbig)⟩
    · by_cases hb : b = e
      · have q' : G'.get? b = some o := q
        rw [hb, ge] at q'; cases q'
      · exact (gk b hb).symm.trans q
    · rw [upd_ne (Ne.symm M.dne)]
      exact I1.hok.fresh M.new
end
end Pi
end
section
set_option maxRecDepth 100000
set_option autoImplicit false
/-! Pi13: raise, try. -/
namespace Pi
open PySem PySem.Spec PyProof.Rows L2
section
variable {X : Cx} {c : Cn} {W : WX}
/-! ### raise -/
/-- an own exception class without own __init__ -/
structure XcI (c : Cn) (k : Nat) (x : Str) : Prop where
  ex : ∃ cl C, c.cls[k]? = some cl ∧ cl.name = x ∧ c.mg x = some (.ref C) ∧ PySem.W.excIn c.K C He.veBase "ValueError.__new__" = true ∧ PySem.W.keepIn c.K (.ref C) = true ∧ PySem.W.subIn c.K (.ref C) (.type "BaseException") = some true ∧ PySem.W.typeIn c.K (.ref C) = some (.type "type")
def sRaise (k : Nat) : IS := fun e h => .exc k none e h
theorem s_raise {n k j : Nat} {x : Str} {m : String} {p p2 pos pos' : Pos} (cx : Ctx X c W n) (F : XcI c k x) (hg : Gl X x := by rfl) (hdb : (x == ("__debug__" : Str)) = false := by decide) : PS X (.Raise (some (.Call (.Name x p) [.Constant (.str m) j p2] [] pos)) none pos') (tS c W (sRaise k)) := by
  obtain ⟨cl, C, hc, hn, hm, e1, e2, e3, e4⟩ := F.ex
  rw [← cx.K] at e1 e2 e3 e4
  refine (ps_raise cx.calm cx.tk (pmk_own PySem.F.excBase_ValueError e1 (by rw [cx.mg]; exact hm) e2 (raises_own e3 e4) hg hdb)).imp fun De σ H ⟨g, e, h, R, E, p⟩ => ?_
  exact p g σ H (.ref C) none (.refl g) R E ⟨cl, C, hc, by rw [hn]; exact hm, rfl, trivial⟩
/-- Malformed, the k-th class -/
structure MalI (P : Program) (c : Cn) (k : Nat) : Prop where
  ex : ∃ C fI, PySem.MalX.MalTxt P c.K c.mg C fI ∧ c.cls[k]? = some ⟨"Malformed", ["at"]⟩
def sRaiseM (k : Nat) (a : IE) : IS := fun e h => (a e h).toS e fun d h1 => .exc k (some d) e h1
theorem s_raiseM {n k : Nat} {a : Expr} {ca : IE} {p pos pos' : Pos} (cx : Ctx X c W n) (F : MalI X.prog c k) (ha : PE X a (tI c W ca)) (hg : Gl X "Malformed" := by rfl)
    (he : starEach (a :: []) X.env = (false, eval a X.env) :: starEach [] X.env := by rfl) (hpl : (backTo pos (starEach [] X.env)).any (·.1) = false := by rfl) : PS X (.Raise (some (.Call (.Name "Malformed" p) [a] [] pos)) none pos') (tS c W (sRaiseM k ca)) := by
  obtain ⟨C, fI, T, hc⟩ := F.ex
  have T' := T
  rw [← cx.K, ← cx.mg] at T'
  refine (ps_raise cx.calm cx.tk (pmk_mal T' (cx.room) (pa_cons ha pa_nil he) hg he hpl)).imp fun De σ H ⟨g, e, h, R, E, p⟩ => ?_
  refine ⟨g, e, h, R, E, toS_E E p fun d h1 g1 v H1 l1 R1 r1 p1 => ?_⟩
  refine ⟨v, rfl, fun dd hd => ?_⟩
  refine p1 g1 σ _ (.ref C) (some dd) (.refl _) (R1.grow fun a o q => by rw [upd_ne (ne_of_none q hd)]; exact q) (E.mono l1) ⟨_, C, hc, T.gC, rfl, "at", v, dd, rfl, rfl, upd_same, r1⟩
/-! ### try -/
/-- which classes an except clause names -/
structure CatI (c : Cn) (x : Str) (ct : Nat → Option Bool) : Prop where
  ex : ∃ C, c.mg x = some (.ref C) ∧ ∀ k b cl C', ct k = some b → c.cls[k]? = some cl → c.mg cl.name = some (.ref C') → PySem.W.exmOne c.K (.ref C') (.ref C) = some b
def sTry (ct : Nat → Option Bool) (b s : IS) : IS := fun e h => match b e h with
  | .exc k p e1 h1 => match ct k with
    | some true => s e1 h1
    | some false => .exc k p e1 h1
    | none => .bad
  | r => r
theorem s_try {x : Str} {body suite : List Stmt} {b₀ : Stmt} {np pos pos' : Pos} {fb fs : IS} {ct : Nat → Option Bool} (hK : X.K = c.K) (hm : X.mg = c.mg) (F : CatI c x ct) (tk : Takes X W)
    (hb : ∀ (W' : WX) (pn : List (Addr × Obj)) (xe : Value → Shared → Prop), Takes (X.tr pn xe) W' → PassesOwn (model X.prog X.w) X.A X.env xe → PSs (X.tr pn xe) body (tS c W' fb))
    (hsu : ∀ (a : Addr) (oe : Obj) (pn : List (Addr × Obj)), PSs (X.suite a ((a, oe) :: pn)) (b₀ :: suite) (tS c W0 fs))
    (hns : ∀ e h k p e1 h1, fs e h ≠ .exc k p e1 h1)
    (hs : X.stack = X.env :: X.outer := by rfl) (hf : X.env.frame = some X.env.locals := by rfl) (hg : Gl X x := by rfl) (hdb : (x == ("__debug__" : Str)) = false := by decide) :
    PS X (.Try body [.ExceptHandler (some (.Name x np)) none (b₀ :: suite) pos'] [] [] pos) (tS c W (sTry ct fb fs)) := by
  obtain ⟨C, hC, hx⟩ := F.ex
  refine (ps_try_only (c := .ref C) (tb := fun W' => tS c W' fb) (ts := fun _ _ _ => tS c W0 fs) (Wout := W) hs hf ⟨hg, hdb, .inl (by rw [hm]; exact hC)⟩ tk hb (fun a oe cls d pn _ _ => hsu a oe pn)).imp fun De σ H ⟨g, e, h, R, E, p⟩ => ?_
  refine ⟨g, e, h, R, E, ?_⟩
  have p' : PstS c g De W (match fb e h with
    | .exc k p e1 h1 => match ct k with
      | some true => fs e1 h1
      | some false => .exc k p e1 h1
      | none => .bad
    | r => r) := p
  cases q : fb e h with
  | exc k pp e1 h1 =>
    rw [q] at p'
    dsimp only at p'
    intro g1 σ1 H1 cls dx l1 R1 E1 xr
    obtain ⟨cl, C', hc, hC', rfl, xp⟩ := id xr
    cases q2 : ct k with
    | none => rw [q2] at p'; exact p'.elim
    | some b =>
      rw [q2] at p'
      refine ⟨b, by rw [hK]; exact hx k b cl C' q2 hc hC', fun hb a ha => ?_, fun hb => ?_⟩
      · subst hb
        dsimp only at p'
        refine ⟨g1, e1, h1, R1, E1, ?_⟩
        have p2 := PstS.le p' l1
        cases q3 : fs e1 h1 with
        | exc k p e h => exact absurd q3 (hns _ _ _ _ _ _)
        | _ => rw [q3] at p2; exact p2
      · subst hb
        exact p' g1 σ1 H1 _ dx l1 R1 E1 xr
  | _ => rw [q] at p'; exact p'
/-- except x as n: y = n.at -/
def sTryAt (ct : Nat → Option Bool) (i j : Nat) (b : IS) : IS := fun e h => match b e h with
  | .exc k p e1 h1 => match ct k with
    | some true => match p with
      | some d => if i < e1.length ∧ i ≠ j then .next ((e1.set i none).set j (some d)) h1 else .bad
      | none => .bad
    | some false => .exc k p e1 h1
    | none => .bad
  | r => r
theorem PstS.exc_of {g : G} {De : Ends} {W : WX} {r : RS} (h : PstS c g De W r) : True := trivial
theorem s_tryAt {n i j kM : Nat} {x ne y : Str} {body : List Stmt} {np pos pos' p1 p2 p3 p4 : Pos} {fb : IS} {ct : Nat → Option Bool} (cx : Ctx X c W n) (F : CatI c x ct) (FM : MalI X.prog c kM) (hct : ∀ k, ct k = some true → k = kM)
    (hb : ∀ (W' : WX) (pn : List (Addr × Obj)) (xe : Value → Shared → Prop), Takes (X.tr pn xe) W' → PassesOwn (model X.prog X.w) X.A X.env xe → PSs (X.tr pn xe) body (tS c W' fb))
    (hi : X.N[i]? = some ne := by rfl) (hj : X.N[j]? = some y := by rfl) (hln : X.env.kindOf ne = some .local := by rfl)
    (hy : Loc X.env.scope y := by first | exact Or.inl rfl | exact Or.inr rfl) (hvy : Vis X.env.scope ne := by first | exact Or.inl rfl | exact Or.inr (Or.inl rfl) | exact Or.inr (Or.inr rfl))
    (hfy : X.fn y = true ∨ X.env.scope.names.lookup y = some .local := by first | exact .inl rfl | exact .inr rfl)
    (hs : X.stack = X.env :: X.outer := by rfl) (hf : X.env.frame = some X.env.locals := by rfl) (hg : Gl X x := by rfl) (hdb : (x == ("__debug__" : Str)) = false := by decide)
    (hnd : (ne == ("__debug__" : Str)) = false := by decide) (hncd : (ne == ("__classdict__" : Str)) = false := by decide)
    (hba : attributeBase (.Name ne p1) "at" X.env (eval (.Name ne p1) X.env) = eval (.Name ne p1) X.env := by rfl)
    (hsw : swapsWith (.Attribute (.Name ne p1) "at" p2) (some (.Name y p3)) p4.line X.env = pure false := by rfl) :
    PS X (.Try body [.ExceptHandler (some (.Name x np)) (some ne) [.Assign [.Name y p3] (.Attribute (.Name ne p1) "at" p2) p4] pos'] [] [] pos) (tS c W (sTryAt ct i j fb)) := by
  obtain ⟨C, hC, hx⟩ := F.ex
  obtain ⟨CM, fI, T, hcM⟩ := FM.ex
  have xfc : XfC X.K CM := ⟨by rw [cx.K]; exact T.ga, by rw [cx.K]; exact T.gg, by rw [cx.K]; exact T.exC, by rw [cx.K]; exact T.hdC⟩
  refine (ps_try_as (c := .ref C) (i := i) (tb := fun W' => tS c W' fb) (ts := fun a cls d => tAsg (tXf a cls d CM "at" (tVar i)) (gName j)) (Wout := W) hs hf cx.nd hi hln ⟨hg, hdb, .inl (by rw [cx.mg]; exact hC)⟩ cx.tk hb (fun a oe cls d pn hz hfl => ?_)).imp fun De σ H ⟨g, e, h, R, E, p⟩ => ?_
  · exact pss_one (ps_set cx.nd hj hy (pe_xf xfc (by rw [cx.K]; exact T.noN) hz hfl (pe_var hi hvy hnd hncd) hba) hsw hfy)
  refine ⟨g, e, h, R, E, ?_⟩
  have p' : PstS c g De W (match fb e h with
    | .exc k p e1 h1 => match ct k with
      | some true => match p with
        | some d => if i < e1.length ∧ i ≠ j then .next ((e1.set i none).set j (some d)) h1 else .bad
        | none => .bad
      | some false => .exc k p e1 h1
      | none => .bad
    | r => r) := p
  cases q : fb e h with
  | exc k pp e1 h1 =>
    rw [q] at p'
    dsimp only at p'
    intro g1 σ1 H1 cls dx l1 R1 E1 xr
    obtain ⟨cl, C', hc, hC', rfl, xp⟩ := id xr
    cases q2 : ct k with
    | none => rw [q2] at p'; exact p'.elim
    | some b =>
      rw [q2] at p'
      refine ⟨b, by rw [cx.K]; exact hx k b cl C' q2 hc hC', fun hb a ha => ?_, fun hb => ?_⟩
      · subst hb
        dsimp only at p'
        cases pp with
        | none => exact p'.elim
        | some d =>
          dsimp only at p'
          by_cases hlt : i < e1.length ∧ i ≠ j
          · rw [if_pos hlt] at p'
            obtain rfl := hct k q2
            rw [hcM] at hc
            cases hc
            rw [T.gC] at hC'
            cases hC'
            obtain ⟨f, v, dd, ef, rfl, hdd, rv⟩ := xp
            obtain rfl : "at" = f := by
              have := List.cons.inj ef
              exact this.1
            have hσ : i < σ1.length := by rw [E1.len]; exact hlt.1
            refine ⟨_, by rw [List.getElem?_set_self hσ], rfl, rfl, dd, _, v, rfl, hdd, by simp [List.lookup], ?_⟩
            refine p' g1 _ H1 l1 R1 ?_
            have E2 := ((E1.setN i).set j rv)
            have e3 : ((σ1.set i (some (V.ref a))).set j (some v)).set i none = (σ1.set i none).set j (some v) := by
              rw [List.set_comm _ _ hlt.2.symm, List.set_set]
            rw [e3]
            exact E2
          · rw [if_neg hlt] at p'; exact p'.elim
      · subst hb
        exact p' g1 σ1 H1 _ dx l1 R1 E1 xr
  | _ => rw [q] at p'; exact p'
end
end Pi
end
section
set_option maxRecDepth 100000
set_option autoImplicit false
/-! Pi14: defs. -/
namespace Pi
open PySem PySem.Spec PyProof.Rows L2
/-- a def's pure function: its body from its slots -/
def fnEnd : RS → R D
  | .next _ h => .ok .non h
  | .ret d h => .ok d h
  | .exc k p _ h => .exc k p h
  | _ => .bad
def mkFn (np nN : Nat) (body : IS) : List D → Hs → R D := fun ds h => match Nat.beq ds.length np with
  | true => fnEnd (body (ds.map some ++ List.replicate (nN - np) none) h)
  | false => .bad
section
variable {P : Program} {w : World} {base : Heap} {c : Cn}
theorem Def.up {m n : Nat} {ad : Addr} {ps : List Str} {fn : List D → Hs → R D} (F : Def P w base c m ad ps fn) (h : m ≤ n) : Def P w base c n ad ps fn := by
  obtain ⟨fd, F1, F2⟩ := F.ex
  exact ⟨⟨fd, F1.mono (by omega), F2⟩, F.kp⟩
theorem env_start {g : G} : ∀ {vs : List V} {ds : List D} (k : Nat), RepL c g vs ds → EnvR c g (vs.map some ++ List.replicate k none) (ds.map some ++ List.replicate k none)
  | vs, ds, k, r => by
    have hl := r.length
    refine ⟨by simp [hl], fun i d h => ?_⟩
    by_cases hi : i < ds.length
    · rw [List.getElem?_append_left (by simpa using hi), List.getElem?_map] at h
      rw [List.getElem?_append_left (by simp; omega), List.getElem?_map]
      cases q : ds[i]? with
      | none => rw [q] at h; cases h
      | some d' =>
        rw [q] at h
        cases h
        obtain ⟨v, hv, rv⟩ := r.get q
        exact ⟨v, by rw [hv]; rfl, rv⟩
    · rw [List.getElem?_append_right (by simp; omega)] at h
      have := List.mem_of_getElem? h
      rw [List.mem_replicate] at this
      cases this.2
/-- the wish of a def's body -/
abbrev WD (E : XK) : WX := fun cls d _ H => E cls d H
/-- THE RULE for a def -/
theorem mkFnOk {x qual : Str} {params : Arguments} {body : List Stmt} {scope : Scope} {f : Addr} {N ps : List Str} {n : Nat} {fb : IS} {fd : FuncData} (F : FunD c.K x qual params body scope [] [] f fd) (S : FnScope N ps scope)
    (hb : ∀ (cdv : Value) (A : Around) (outer : List Env) (s : Shared) (H : Hp) (E : XK), Ctx (cxOf (L2.CX P w) P w c.K c.mg base N qual scope f cdv A outer s H E) c (WD E) n →
      PassesOwn (model P w) (A.deeper (envOfC qual scope s.heap.objs.size f cdv)) (envOfC qual scope s.heap.objs.size f cdv) (cxOf (L2.CX P w) P w c.K c.mg base N qual scope f cdv A outer s H E).xe →
      PSs (cxOf (L2.CX P w) P w c.K c.mg base N qual scope f cdv A outer s H E) body (tS c (WD E) fb)) :
    FnOk P w c.K c.mg base (L2.CX P w) (2 * (n + 1)) f fd ps (spI c (mkFn ps.length N.length fb)) := by
  have hnp : ps.length ≤ N.length := by have := congrArg List.length S.pre; rw [List.length_take] at this; omega
  refine F.ok (k := 2 * n + 1) S (fun vs H Q E h => ?_) (fun cdv A outer s H vs Q E hr h => ⟨tS c (WD E) fb, hb cdv A outer s H E ⟨rfl, rfl, takes_of rfl rfl rfl rfl, S.nd, rfl, hr⟩ (passes_of rfl), ?_⟩)
  · obtain ⟨g, ds, h, R, r, p⟩ := h
    have p' : Pst c g Q E (match Nat.beq ds.length ps.length with
      | true => fnEnd (fb (ds.map some ++ List.replicate (N.length - ps.length) none) h)
      | false => .bad) := p
    cases q : Nat.beq ds.length ps.length with
    | false => rw [q] at p'; exact p'.elim
    | true => exact r.length.trans (Nat.eq_of_beq_eq_true q)
  · obtain ⟨g, ds, h, R, r, p⟩ := h
    have p' : Pst c g Q E (match Nat.beq ds.length ps.length with
      | true => fnEnd (fb (ds.map some ++ List.replicate (N.length - ps.length) none) h)
      | false => .bad) := p
    cases q : Nat.beq ds.length ps.length with
    | false => rw [q] at p'; exact p'.elim
    | true =>
      rw [q] at p'
      have hl : ds.length = ps.length := Nat.eq_of_beq_eq_true q
      refine ⟨g, ds.map some ++ List.replicate (N.length - ps.length) none, h, R, ?_, ?_⟩
      · have := env_start (c := c) (g := g) (N.length - ps.length) r
        unfold L2.start
        rw [r.length, hl]
        exact this
      · dsimp only at p'
        cases q2 : fb (ds.map some ++ List.replicate (N.length - ps.length) none) h with
        | next e1 h1 => rw [q2] at p'; exact fun g' σ H' l R' _ => p' g' .non H' l R' .non
        | ret d h1 => rw [q2] at p'; exact p'
        | exc k p e1 h1 => rw [q2] at p'; exact fun g' σ H' cls dx l R' _ x => p' g' H' cls dx l R' x
        | brk e1 h1 => rw [q2] at p'; exact p'.elim
        | cnt e1 h1 => rw [q2] at p'; exact p'.elim
        | bad => rw [q2] at p'; exact p'.elim
/-- THE RULE for a def -/
theorem mkDef {x qual : Str} {params : Arguments} {body : List Stmt} {scope : Scope} {f : Addr} {N ps : List Str} {n : Nat} {fb : IS} {fd : FuncData} (F : FunD c.K x qual params body scope [] [] f fd) (S : FnScope N ps scope)
    (bn : ∀ (kV doc pm : Value) (an : Option Addr) (cdv ct : Value) (us : List Value), us.length = ps.length → bindArgs (PySem.W.fnOf x qual params body scope .none kV doc pm an cdv ct) ⟨us, []⟩ = pure (ps.zip us))
    (hb : ∀ (cdv : Value) (A : Around) (outer : List Env) (s : Shared) (H : Hp) (E : XK), Ctx (cxOf (L2.CX P w) P w c.K c.mg base N qual scope f cdv A outer s H E) c (WD E) n →
      PassesOwn (model P w) (A.deeper (envOfC qual scope s.heap.objs.size f cdv)) (envOfC qual scope s.heap.objs.size f cdv) (cxOf (L2.CX P w) P w c.K c.mg base N qual scope f cdv A outer s H E).xe →
      PSs (cxOf (L2.CX P w) P w c.K c.mg base N qual scope f cdv A outer s H E) body (tS c (WD E) fb)) :
    Def P w base c (n + 1) f ps (mkFn ps.length N.length fb) := ⟨⟨fd, mkFnOk F S hb, FunD.bindsN F bn⟩, F.kp⟩
/-- nothing is promised -/
theorem defBad {x qual : Str} {params : Arguments} {body : List Stmt} {scope : Scope} {f : Addr} {ps : List Str} {fd : FuncData} (F : FunD c.K x qual params body scope [] [] f fd)
    (bn : ∀ (kV doc pm : Value) (an : Option Addr) (cdv ct : Value) (us : List Value), us.length = ps.length → bindArgs (PySem.W.fnOf x qual params body scope .none kV doc pm an cdv ct) ⟨us, []⟩ = pure (ps.zip us)) : Def P w base c 0 f ps (fun _ _ => .bad) :=
  ⟨⟨fd, ⟨fun vs H Q E ⟨g, ds, h, R, r, p⟩ => p.elim, fun A outer s H args us vs Q E _ _ _ _ ⟨g, ds, h, R, r, p⟩ => p.elim⟩, FunD.bindsN F bn⟩, F.kp⟩
/-! ### defs by names -/
structure DG (P : Program) (w : World) (base : Heap) (c : Cn) (n : Nat) (x : Str) (ps : List Str) (fn : List D → Hs → R D) : Prop where
  ex : ∃ ad, Def P w base c n ad ps fn ∧ c.mg x = some (.ref ad)
structure DM (P : Program) (w : World) (base : Heap) (c : Cn) (n k : Nat) (m : Str) (ps : List Str) (fn : List D → Hs → R D) : Prop where
  ex : ∃ ad, Def P w base c n ad ps fn ∧ MethI c k m ad
structure DN (P : Program) (w : World) (base : Heap) (c : Cn) (n k : Nat) (x : Str) (ps : List Str) (fn : List D → Hs → R D) : Prop where
  ex : ∃ ad, Def P w base c n ad ps fn ∧ MkI c k x ad
theorem DG.up {m n : Nat} {x : Str} {ps : List Str} {fn : List D → Hs → R D} (F : DG P w base c m x ps fn) (h : m ≤ n) : DG P w base c n x ps fn := let ⟨ad, F1, F2⟩ := F.ex; ⟨ad, F1.up h, F2⟩
theorem DM.up {m n k : Nat} {x : Str} {ps : List Str} {fn : List D → Hs → R D} (F : DM P w base c m k x ps fn) (h : m ≤ n) : DM P w base c n k x ps fn := let ⟨ad, F1, F2⟩ := F.ex; ⟨ad, F1.up h, F2⟩
theorem DN.up {m n k : Nat} {x : Str} {ps : List Str} {fn : List D → Hs → R D} (F : DN P w base c m k x ps fn) (h : m ≤ n) : DN P w base c n k x ps fn := let ⟨ad, F1, F2⟩ := F.ex; ⟨ad, F1.up h, F2⟩
end
section
variable {X : Cx} {c : Cn} {W : WX} {n : Nat} {ps : List Str} {fn : List D → Hs → R D} {x m : Str} {p pos apos : Pos} {e o : Expr} {es : List Expr} {ca : IA} {co : IE} {k : Nat}
theorem p_call (cx : Ctx X c W n) (F : DG X.prog X.w X.base c n x ps fn) (ha : PA X (e :: es) (tA c W ca)) (hg : Gl X x := by rfl)
    (hdb : (x == ("__debug__" : Str)) = false := by decide) (he : starEach (e :: es) X.env = (false, eval e X.env) :: starEach es X.env := by rfl) (hpl : (backTo pos (starEach es X.env)).any (·.1) = false := by rfl) :
    PE X (.Call (.Name x p) (e :: es) [] pos) (tI c W (cCall fn ca)) := let ⟨_, F1, F2⟩ := F.ex; pi_call cx F1 F2 ha hg hdb he hpl
theorem p_call0 (cx : Ctx X c W n) (F : DG X.prog X.w X.base c n x ps fn) (hg : Gl X x := by rfl) (hdb : (x == ("__debug__" : Str)) = false := by decide) :
    PE X (.Call (.Name x p) [] [] pos) (tI c W (cCall fn aNil)) := let ⟨_, F1, F2⟩ := F.ex; pi_call0 cx F1 F2 hg hdb
theorem p_meth {pl : Sem Bool} (cx : Ctx X c W n) (F : DM X.prog X.w X.base c n k m ps fn) (ho : PE X o (tI c W co)) (ha : PA X (e :: es) (tA c W ca))
    (hst : starEach (e :: es) X.env = (false, eval e X.env) :: starEach es X.env := by rfl) (hpl : (backTo pos (starEach es X.env)).any (·.1) = false := by rfl)
    (ht : eval (.Call (.Attribute o m apos) (e :: es) [] pos) X.env = (do
      let ov ← eval o X.env
      standAt apos.atName
      let (f, first) ← holding [ov] (getMethod ov m pl)
      callWith pos f first (backTo pos (starEach (e :: es) X.env)) (backToKw pos (keywordEach [] X.env))) := by rfl) :
    PE X (.Call (.Attribute o m apos) (e :: es) [] pos) (tI c W (cMeth fn k co ca)) := let ⟨_, F1, F2⟩ := F.ex; pi_meth cx F1 F2 ho ha hst hpl ht
theorem p_meth0 {pl : Sem Bool} (cx : Ctx X c W n) (F : DM X.prog X.w X.base c n k m ps fn) (ho : PE X o (tI c W co))
    (ht : eval (.Call (.Attribute o m apos) [] [] pos) X.env = (do
      let ov ← eval o X.env
      standAt apos.atName
      let (f, first) ← holding [ov] (getMethod ov m pl)
      callWith pos f first (backTo pos (starEach [] X.env)) (backToKw pos (keywordEach [] X.env))) := by rfl) :
    PE X (.Call (.Attribute o m apos) [] [] pos) (tI c W (cMeth fn k co aNil)) := let ⟨_, F1, F2⟩ := F.ex; pi_meth0 cx F1 F2 ho ht
theorem p_new (cx : Ctx X c W n) (F : DN X.prog X.w X.base c n k x ps fn) (ha : PA X (e :: es) (tA c W ca)) (hg : Gl X x := by rfl)
    (hdb : (x == ("__debug__" : Str)) = false := by decide) (he : starEach (e :: es) X.env = (false, eval e X.env) :: starEach es X.env := by rfl) (hpl : (backTo pos (starEach es X.env)).any (·.1) = false := by rfl) :
    PE X (.Call (.Name x p) (e :: es) [] pos) (tI c W (cNew fn k ca)) := let ⟨_, F1, F2⟩ := F.ex; pi_new cx F1 F2 ha hg hdb he hpl
theorem Ctx.tr {X : Cx} {c : Cn} {W W' : WX} {n : Nat} (cx : Ctx X c W n) (pn : List (Addr × Obj)) (xe : Value → Shared → Prop) (tk : Takes (X.tr pn xe) W') : Ctx (X.tr pn xe) c W' n := ⟨cx.K, cx.mg, tk, cx.nd, cx.calm, cx.room⟩
theorem tblF2 {P : Program} {w : World} {base : Heap} {x1 x2 : Str} {ps1 ps2 : List Str} {f1 f2 : List D → Hs → R D} (h1 : ∃ ad, Def P w base c n ad ps1 f1 ∧ c.mg x1 = some (.ref ad)) (h2 : ∃ ad, Def P w base c n ad ps2 f2 ∧ c.mg x2 = some (.ref ad)) :
    ∀ x fn, ([(x1, f1), (x2, f2)] : List (Str × (List D → Hs → R D))).lookup x = some fn → ∃ ad ps, Def P w base c n ad ps fn ∧ c.mg x = some (.ref ad) := by
  intro x fn h
  rw [List.lookup_cons] at h
  cases q : x == x1 with
  | true =>
    rw [q] at h
    cases h
    obtain ⟨ad, a1, a2⟩ := h1
    rw [beq_iff_eq.mp q]
    exact ⟨ad, ps1, a1, a2⟩
  | false =>
    rw [q] at h
    dsimp only at h
    rw [List.lookup_cons] at h
    cases q2 : x == x2 with
    | true =>
      rw [q2] at h
      cases h
      obtain ⟨ad, a1, a2⟩ := h2
      rw [beq_iff_eq.mp q2]
      exact ⟨ad, ps2, a1, a2⟩
    | false =>
      rw [q2] at h
      cases h
abbrev opSub : Hs → D → D → Option D := opI2 fun i j => .int (i - j)
abbrev opLt : Hs → D → D → Option D := opI2 fun i j => .bl (decide (i < j))
abbrev opLe : Hs → D → D → Option D := opI2 fun i j => .bl (decide (i ≤ j))
abbrev opGt : Hs → D → D → Option D := opI2 fun i j => .bl (decide (j < i))
abbrev opGe : Hs → D → D → Option D := opI2 fun i j => .bl (decide (j ≤ i))
/-- an expression that is not come to -/
def cBad : IE := fun _ _ => .bad
theorem pi_bad : PE X e (tI c W cBad) := ⟨fun pins s σ H Q I ⟨g, ev, h, R, E, p⟩ => p.elim⟩
end
/-! ### the module's constants -/
section
variable {c : Cn}
theorem glo_int {x : Str} {i : Int} (h : ∃ t, c.mg x = some (.int i t)) : Glo c x (.int i) := let ⟨t, e⟩ := h; ⟨_, .int i, e, ⟨t, rfl⟩, fun _ => .int i⟩
theorem glo_str {x : Str} {z : Str} {cs : List Nat} (h : ∃ t, c.mg x = some (.str z t)) (hz : z = sOf cs) : Glo c x (.str cs) := by
  obtain ⟨t, e⟩ := h
  subst hz
  exact ⟨_, .str (sOf cs), e, ⟨t, rfl⟩, fun _ => .str cs⟩
theorem glo_tup {x : Str} {vs : List He.Dv} {ds : List D} (h : c.mg x = some (.ref (He.ga c.K x))) (hb : He.tupB c.K x vs = true) (hr : ∀ g, RepL c g (vs.map (He.Dv.v c.K)) ds) : Glo c x (.tup ds) :=
  ⟨_, .ref _, h, rfl, fun g => .tup (He.tupB_ok hb g.F) (hr g)⟩
theorem glo_glo {x : Str} {a : Addr} (h : c.mg x = some (.ref a)) : Glo c x (.glo x) := ⟨_, .ref a, h, rfl, fun _ => .glo h⟩
end
end Pi
end
section
set_option maxRecDepth 100000
set_option autoImplicit false
/-! Pi15: what the combinators do, as rows for simp. -/
namespace Pi
open PySem PySem.Spec PyProof.Rows L2
section
variable {α β : Type} {a b k : IE} {ca cb : IA} {t u : IT} {e : Lv} {h : Hs} {f g : IS} {d d1 d2 : D}
@[simp] theorem bind_ok (x : α) (h : Hs) (f : α → Hs → R β) : (R.ok x h).bind f = f x h := rfl
@[simp] theorem bind_exc (c : Nat) (p : Option D) (h : Hs) (f : α → Hs → R β) : (R.exc c p h : R α).bind f = .exc c p h := rfl
@[simp] theorem bind_bad (f : α → Hs → R β) : (R.bad : R α).bind f = .bad := rfl
@[simp] theorem toS_ok (x : α) (h : Hs) (e : Lv) (f : α → Hs → RS) : (R.ok x h).toS e f = f x h := rfl
@[simp] theorem toS_exc (c : Nat) (p : Option D) (h : Hs) (e : Lv) (f : α → Hs → RS) : (R.exc c p h : R α).toS e f = .exc c p e h := rfl
@[simp] theorem toS_bad (e : Lv) (f : α → Hs → RS) : (R.bad : R α).toS e f = .bad := rfl
@[simp] theorem rs_next (e : Lv) (h : Hs) (f : IS) : (RS.next e h).bind f = f e h := rfl
@[simp] theorem rs_ret (d : D) (h : Hs) (f : IS) : (RS.ret d h).bind f = .ret d h := rfl
@[simp] theorem rs_brk (e : Lv) (h : Hs) (f : IS) : (RS.brk e h).bind f = .brk e h := rfl
@[simp] theorem rs_cnt (e : Lv) (h : Hs) (f : IS) : (RS.cnt e h).bind f = .cnt e h := rfl
@[simp] theorem rs_exc (c : Nat) (p : Option D) (e : Lv) (h : Hs) (f : IS) : (RS.exc c p e h).bind f = .exc c p e h := rfl
@[simp] theorem rs_bad (f : IS) : RS.bad.bind f = .bad := rfl
@[simp] theorem ofO_s (x : α) (h : Hs) : ofO (some x) h = .ok x h := rfl
@[simp] theorem fnEnd_next (e : Lv) (h : Hs) : fnEnd (.next e h) = .ok .non h := rfl
@[simp] theorem fnEnd_ret (d : D) (h : Hs) : fnEnd (.ret d h) = .ok d h := rfl
@[simp] theorem fnEnd_exc (c : Nat) (p : Option D) (e : Lv) (h : Hs) : fnEnd (.exc c p e h) = .exc c p h := rfl
@[simp] theorem fnEnd_bad : fnEnd .bad = .bad := rfl
/-- a def at its arguments -/
theorem mkFn1 (nN : Nat) (body : IS) (x : D) (h : Hs) : mkFn 1 nN body [x] h = fnEnd (body (some x :: List.replicate (nN - 1) none) h) := rfl
theorem mkFn2 (nN : Nat) (body : IS) (x y : D) (h : Hs) : mkFn 2 nN body [x, y] h = fnEnd (body (some x :: some y :: List.replicate (nN - 2) none) h) := rfl
theorem mkFn3 (nN : Nat) (body : IS) (x y z : D) (h : Hs) : mkFn 3 nN body [x, y, z] h = fnEnd (body (some x :: some y :: some z :: List.replicate (nN - 3) none) h) := rfl
theorem mkFn4 (nN : Nat) (body : IS) (x y z w : D) (h : Hs) : mkFn 4 nN body [x, y, z, w] h = fnEnd (body (some x :: some y :: some z :: some w :: List.replicate (nN - 4) none) h) := rfl
@[simp] theorem sSeq_eq : sSeq f g e h = (f e h).bind g := rfl
@[simp] theorem sNil_eq : sNil e h = .next e h := rfl
@[simp] theorem sRet_eq : sRet a e h = (a e h).toS e fun d h1 => .ret d h1 := rfl
@[simp] theorem sExpr_eq : sExpr a e h = (a e h).toS e fun _ h1 => .next e h1 := rfl
@[simp] theorem sRaise_eq (k : Nat) : sRaise k e h = .exc k none e h := rfl
@[simp] theorem sRaiseM_eq (k : Nat) : sRaiseM k a e h = (a e h).toS e fun d h1 => .exc k (some d) e h1 := rfl
@[simp] theorem sIf_eq : sIf t f g e h = (t e h).toS e fun k h1 => bif k then f e h1 else g e h1 := by
  show (t e h).toS e _ = _
  congr 1
@[simp] theorem sSet_eq (i : Nat) : sSet i a e h = (a e h).toS e fun d h1 => .next (e.set i (some d)) h1 := rfl
@[simp] theorem sPar_eq (i j : Nat) : sPar i j a b e h = (a e h).toS e fun x h1 => (b e h1).toS e fun y h2 => .next ((e.set i (some x)).set j (some y)) h2 := rfl
@[simp] theorem sPar3_eq (i j l : Nat) : sPar3 i j l a b k e h = (a e h).toS e fun x h1 => (b e h1).toS e fun y h2 => (k e h2).toS e fun z h3 => .next (((e.set i (some x)).set j (some y)).set l (some z)) h3 := rfl
@[simp] theorem cVar_eq (i : Nat) : cVar i e h = match e[i]? with | some (some d) => .ok d h | _ => .bad := rfl
@[simp] theorem cC_eq : cC d e h = .ok d h := rfl
@[simp] theorem cOp_eq (o : Hs → D → D → Option D) : cOp o a b e h = (a e h).bind fun x h1 => (b e h1).bind fun y h2 => ofO (o h2 x y) h2 := rfl
@[simp] theorem cUn_eq (o : Hs → D → Option D) : cUn o a e h = (a e h).bind fun x h1 => ofO (o h1 x) h1 := rfl
@[simp] theorem tBl_bl (x : Bool) (ha : a e h = .ok (.bl x) h) : tBl a e h = .ok x h := by unfold tBl; rw [ha]; rfl
def blB (r : R D) : R Bool := r.bind fun d h1 => match d with
  | .bl b => .ok b h1
  | _ => .bad
@[simp] theorem tBl_eq : tBl a e h = blB (a e h) := rfl
@[simp] theorem blB_ok (x : Bool) : blB (.ok (.bl x) h) = .ok x h := rfl
@[simp] theorem tV_eq : tV a e h = (a e h).bind fun d h1 => ofO (tru h1 d) h1 := rfl
@[simp] theorem tAndI_eq : tAndI t u e h = (t e h).bind fun x h1 => bif x then u e h1 else .ok false h1 := by
  show (t e h).bind _ = _
  congr 1
@[simp] theorem tOrI_eq : tOrI t u e h = (t e h).bind fun x h1 => bif x then .ok true h1 else u e h1 := by
  show (t e h).bind _ = _
  congr 1
@[simp] theorem tNotI_eq : tNotI t e h = (t e h).bind fun x h1 => .ok (!x) h1 := rfl
@[simp] theorem cIfE_eq : cIfE t a b e h = (t e h).bind fun k h1 => bif k then a e h1 else b e h1 := by
  show (t e h).bind _ = _
  congr 1
@[simp] theorem cAndV_eq : cAndV a b e h = (a e h).bind fun x h1 => (ofO (tru h1 x) h1).bind fun k h2 => bif k then b e h2 else .ok x h2 := by
  show (a e h).bind _ = _
  congr 1
@[simp] theorem cOrV_eq : cOrV a b e h = (a e h).bind fun x h1 => (ofO (tru h1 x) h1).bind fun k h2 => bif k then .ok x h2 else b e h2 := by
  show (a e h).bind _ = _
  congr 1
@[simp] theorem cNotV_eq : cNotV a e h = (a e h).bind fun x h1 => (ofO (tru h1 x) h1).bind fun k h2 => .ok (.bl (!k)) h2 := rfl
@[simp] theorem cChain_eq (o o' : Hs → D → D → Option D) : cChain o o' a b k e h = (a e h).bind fun x h1 => (b e h1).bind fun y h2 => (blB (ofO (o h2 x y) h2)).bind fun z h3 => bif z then (k e h3).bind fun w h4 => ofO (o' h4 y w) h4 else .ok (.bl false) h3 := by
  show (a e h).bind _ = _
  congr 1; funext x h1; show (b e h1).bind _ = _; congr 1; funext y h2
  cases o h2 x y with
  | none => rfl
  | some z => cases z with
    | bl q => cases q <;> rfl
    | _ => rfl
@[simp] theorem aNil_eq : aNil e h = .ok [] h := rfl
@[simp] theorem aCons_eq : aCons a ca e h = (a e h).bind fun x h1 => (ca e h1).bind fun xs h2 => .ok (x :: xs) h2 := rfl
@[simp] theorem cCall_eq (fn : List D → Hs → R D) : cCall fn ca e h = (ca e h).bind fun ds h1 => fn ds h1 := rfl
@[simp] theorem cB_eq (o : Hs → List D → Option D) : cB o ca e h = (ca e h).bind fun ds h1 => ofO (o h1 ds) h1 := rfl
@[simp] theorem cTup_eq : cTup ca e h = (ca e h).bind fun ds h1 => if ds.length ≤ LIM then .ok (.tup ds) h1 else .bad := rfl
@[simp] theorem cLst_eq : cLst ca e h = (ca e h).bind fun ds h1 => if ds.length ≤ LIM then .ok (.lst ds) h1 else .bad := rfl
@[simp] theorem cLstL_eq : cLstL ca e h = (ca e h).bind fun ds h1 => if ds.length ≤ LIM then .ok (.ref h1.length) (h1 ++ [.lst ds]) else .bad := rfl
@[simp] theorem cIs_eq' (q : TK) : cIs q a e h = (a e h).bind fun d h1 => ofO ((isA q (lk h1 d)).map .bl) h1 := rfl
@[simp] theorem sAug_eq (o : Hs → D → D → Option D) (i : Nat) : sAug o i a e h = match e[i]? with
  | some (some x) => (a e h).toS e fun y h1 => match o h1 x y with
    | some z => .next (e.set i (some z)) h1
    | none => .bad
  | _ => .bad := rfl
@[simp] theorem sFor_eq (i : II) (tg : TGI) : sFor i tg f e h = (i e h).toS e fun ds h1 => cFor ds tg f e h1 := rfl
@[simp] theorem cRng1_eq (j : Int) (hc : ca e h = .ok [.int j] h) : cRng1 ca e h = if rgOk j then .ok (intsD 0 j.toNat) h else .bad := by unfold cRng1; rw [hc]; rfl
@[simp] theorem sAsg_eq (tg : TGI) : sAsg tg a e h = (a e h).toS e fun d h1 => match tg d e h1 with
  | some e' => .next e' h1
  | none => .bad := rfl
@[simp] theorem lk_non : lk h .non = .non := rfl
@[simp] theorem lk_bl (q : Bool) : lk h (.bl q) = .bl q := rfl
@[simp] theorem lk_int (i : Int) : lk h (.int i) = .int i := rfl
@[simp] theorem lk_str (s : List Nat) : lk h (.str s) = .str s := rfl
@[simp] theorem lk_tup' (s : List D) : lk h (.tup s) = .tup s := rfl
@[simp] theorem lk_lst' (s : List D) : lk h (.lst s) = .lst s := rfl
theorem lk_ref {n : Nat} {ds : List D} (hn : h[n]? = some (.lst ds)) : lk h (.ref n) = .lst ds := by unfold lk; simp [hn]
@[simp] theorem tru_bl (q : Bool) : tru h (.bl q) = some q := rfl
@[simp] theorem tru_int (i : Int) : tru h (.int i) = some (i != 0) := rfl
@[simp] theorem opI2_eq (m : Int → Int → D) (i j : Int) : opI2 m h (.int i) (.int j) = some (m i j) := rfl
@[simp] theorem opNeg_eq (i : Int) : opNeg h (.int i) = some (.int (-i)) := rfl
@[simp] theorem opAbs_eq (i : Int) : opAbs h [.int i] = some (.int i.natAbs) := rfl
@[simp] theorem opInt_int (i : Int) : opInt h [.int i] = some (.int i) := rfl
@[simp] theorem opInt_bl (q : Bool) : opInt h [.bl q] = some (.int (if q then 1 else 0)) := rfl
@[simp] theorem opLen_tup (ds : List D) : opLen h [.tup ds] = some (.int ds.length) := rfl
@[simp] theorem opLen_lsq (ds : List D) : opLen h [.lsq ds] = some (.int ds.length) := rfl
@[simp] theorem opIx_lsq (ds : List D) (i : Int) : opIx h (.lsq ds) (.int i) = atD ds i := rfl
@[simp] theorem opLen_lst (ds : List D) : opLen h [.lst ds] = some (.int ds.length) := rfl
@[simp] theorem opAdd_int (i j : Int) : opAdd h (.int i) (.int j) = some (.int (i + j)) := rfl
@[simp] theorem opIadd_int (i j : Int) : opIadd h (.int i) (.int j) = some (.int (i + j)) := rfl
@[simp] theorem opIx_tup (ds : List D) (i : Int) : opIx h (.tup ds) (.int i) = atD ds i := rfl
@[simp] theorem opIx_lst (ds : List D) (i : Int) : opIx h (.lst ds) (.int i) = atD ds i := rfl
@[simp] theorem atD_0 (x : α) (l : List α) : atD (x :: l) 0 = some x := rfl
@[simp] theorem atD_1 (x y : α) (l : List α) : atD (x :: y :: l) 1 = some y := rfl
@[simp] theorem atD_2 (x y z : α) (l : List α) : atD (x :: y :: z :: l) 2 = some z := rfl
theorem atD_nat (l : List α) (i : Nat) : atD l (i : Int) = l[i]? := rfl
@[simp] theorem isA_1 (q : TK) : isA q .non = some false := rfl
@[simp] theorem isA_2 (i : Int) : isA .int (.int i) = some true := rfl
@[simp] theorem isA_3 (i : Int) : isA .bool (.int i) = some false := rfl
@[simp] theorem isA_4 (i : Int) : isA .str (.int i) = some false := rfl
@[simp] theorem isA_5 (i : Int) : isA .tuple (.int i) = some false := rfl
@[simp] theorem isA_6 (i : Int) : isA .list (.int i) = some false := rfl
@[simp] theorem isA_7 (i : Int) : isA .dict (.int i) = some false := rfl
@[simp] theorem isA_8 (i : Bool) : isA .int (.bl i) = some true := rfl
@[simp] theorem isA_9 (i : Bool) : isA .bool (.bl i) = some true := rfl
@[simp] theorem isA_10 (i : Bool) : isA .str (.bl i) = some false := rfl
@[simp] theorem isA_11 (i : Bool) : isA .tuple (.bl i) = some false := rfl
@[simp] theorem isA_12 (i : Bool) : isA .list (.bl i) = some false := rfl
@[simp] theorem isA_13 (i : Bool) : isA .dict (.bl i) = some false := rfl
@[simp] theorem isA_14 (i : List Nat) : isA .int (.str i) = some false := rfl
@[simp] theorem isA_15 (i : List Nat) : isA .bool (.str i) = some false := rfl
@[simp] theorem isA_16 (i : List Nat) : isA .str (.str i) = some true := rfl
@[simp] theorem isA_17 (i : List Nat) : isA .tuple (.str i) = some false := rfl
@[simp] theorem isA_18 (i : List Nat) : isA .list (.str i) = some false := rfl
@[simp] theorem isA_19 (i : List Nat) : isA .dict (.str i) = some false := rfl
@[simp] theorem isA_20 (i : List D) : isA .int (.tup i) = some false := rfl
@[simp] theorem isA_21 (i : List D) : isA .bool (.tup i) = some false := rfl
@[simp] theorem isA_22 (i : List D) : isA .str (.tup i) = some false := rfl
@[simp] theorem isA_23 (i : List D) : isA .tuple (.tup i) = some true := rfl
@[simp] theorem isA_24 (i : List D) : isA .list (.tup i) = some false := rfl
@[simp] theorem isA_25 (i : List D) : isA .dict (.tup i) = some false := rfl
@[simp] theorem isA_26 (i : List D) : isA .int (.lst i) = some false := rfl
@[simp] theorem isA_27 (i : List D) : isA .bool (.lst i) = some false := rfl
@[simp] theorem isA_28 (i : List D) : isA .str (.lst i) = some false := rfl
@[simp] theorem isA_29 (i : List D) : isA .tuple (.lst i) = some false := rfl
@[simp] theorem isA_30 (i : List D) : isA .list (.lst i) = some true := rfl
@[simp] theorem isA_31 (i : List D) : isA .dict (.lst i) = some false := rfl
@[simp] theorem opEq_int (i j : Int) : opEq h (.int i) (.int j) = some (.bl (i == j)) := rfl
@[simp] theorem opNe_int (i j : Int) : opNe h (.int i) (.int j) = some (.bl (!(i == j))) := rfl
@[simp] theorem opEq_bl (i j : Bool) : opEq h (.bl i) (.bl j) = some (.bl (i == j)) := rfl
@[simp] theorem opNe_bl (i j : Bool) : opNe h (.bl i) (.bl j) = some (.bl (!(i == j))) := rfl
@[simp] theorem noX_ok (x : α) : noX (.ok x h) = .ok x h := rfl
theorem opMul_int {i j : Int} (hm : mulOk i j = true) : opMul h (.int i) (.int j) = some (.int (i * j)) := by
  show (if mulOk i j then some (D.int (i * j)) else none) = _
  rw [if_pos hm]
theorem opFdiv_int {i j : Int} (hm : divOk j = true) : opFdiv h (.int i) (.int j) = some (.int (i / j)) := by
  show (if divOk j then some (D.int (i / j)) else none) = _
  rw [if_pos hm]
theorem opMod_int {i j : Int} (hm : 0 < j) : opMod h (.int i) (.int j) = some (.int (i % j)) := by
  show (if 0 < j then some (D.int (i % j)) else none) = _
  rw [if_pos hm]
@[simp] theorem gNm_eq (i : Nat) : gNm i d e h = some (e.set i (some d)) := rfl
@[simp] theorem gNilI_eq : gNilI [] e h = some e := rfl
@[simp] theorem gConsI_eq (t : TGI) (u : TGsI) (d : D) (r : List D) : gConsI t u (d :: r) e h = (t d e h).bind fun e' => u r e' h := rfl
@[simp] theorem gTupI_tup (n : Nat) (u : TGsI) (ds : List D) : gTupI n u (.tup ds) e h = if ds.length = n then u ds e h else none := rfl
@[simp] theorem gTupI_lst (n : Nat) (u : TGsI) (ds : List D) : gTupI n u (.lst ds) e h = if ds.length = n then u ds e h else none := rfl
def okS (a : List Nat) : Bool := a.all (· < 0x110000)
@[simp] theorem okS_nil : okS [] = true := rfl
@[simp] theorem okS_cons (k : Nat) (a : List Nat) : okS (k :: a) = (decide (k < 0x110000) && okS a) := rfl
theorem okD_str (a : List Nat) : okD (.str a) = okS a := by
  show (lay (.str a) && decide (0 ≤ 64)) = _
  show (okS a && decide (0 ≤ 64)) = _
  simp
@[simp] theorem opEq_str (a b : List Nat) : opEq h (.str a) (.str b) = if (okS a && okS b) = true then some (.bl (a == b)) else none := by
  show (if okD (.str a) && okD (.str b) then _ else _) = _
  rw [okD_str, okD_str]
  rfl
@[simp] theorem opNe_str (a b : List Nat) : opNe h (.str a) (.str b) = if (okS a && okS b) = true then some (.bl (!(a == b))) else none := by
  show (if okD (.str a) && okD (.str b) then _ else _) = _
  rw [okD_str, okD_str]
  rfl
@[simp] theorem opIn_str (k : Nat) (cs : List Nat) : opIn h (.str [k]) (.str cs) = some (.bl (cs.contains k)) := rfl
@[simp] theorem opNotIn_str (k : Nat) (cs : List Nat) : opNotIn h (.str [k]) (.str cs) = some (.bl (!cs.contains k)) := rfl
theorem cWhile_succ (n : Nat) (t : IT) (b : IS) (e : Lv) (h : Hs) : cWhile (n + 1) t b e h = (t e h).toS e fun k h1 => bif k then (match b e h1 with
      | .next e2 h2 => cWhile n t b e2 h2
      | .cnt e2 h2 => cWhile n t b e2 h2
      | .brk e2 h2 => .next e2 h2
      | r => r) else .next e h1 := by
  show (t e h).toS e _ = _
  congr 1; funext k h1; cases k <;> rfl
@[simp] theorem cFor_nil (tg : TGI) (f : IS) : cFor [] tg f e h = .next e h := rfl
theorem cFor_cons (tg : TGI) (f : IS) (d : D) (ds : List D) : cFor (d :: ds) tg f e h = match tg d e h with
    | none => .bad
    | some e1 => match f e1 h with
      | .next e2 h2 => cFor ds tg f e2 h2
      | .cnt e2 h2 => cFor ds tg f e2 h2
      | .brk e2 h2 => .next e2 h2
      | r => r := rfl
theorem log2_lt {n k : Nat} (hk : 0 < k) (hn : n < 2 ^ k) : n.log2 < k := by
  by_cases h0 : n = 0
  · subst h0
    simpa using hk
  · exact (Nat.log2_lt h0).mpr hn
theorem divOk_of {d : Int} (h0 : 0 < d) (h1 : d.natAbs < 2 ^ 1000) : divOk d = true := by
  unfold divOk
  have := log2_lt (by decide) h1
  simp only [Bool.and_eq_true, decide_eq_true_eq]
  exact ⟨h0, by omega⟩
theorem mulOk_of {i j : Int} (h0 : i.natAbs < 2 ^ 1000) (h1 : j.natAbs < 2 ^ 1000) : mulOk i j = true := by
  unfold mulOk
  have a1 := log2_lt (by decide) h0
  have a2 := log2_lt (by decide) h1
  simp only [Bool.or_eq_true, Bool.and_eq_true, decide_eq_true_eq]
  exact .inr (.inr (by omega))
@[simp] theorem LIM_def : LIM = 16777216 := rfl
def seqB (p : D × Hs) : R (List D) := match p.1 with
  | .lst ds => .ok ds p.2
  | .tup ds => .ok ds p.2
  | .lsq ds => .ok ds p.2
  | _ => .bad
@[simp] theorem cSeq_eq : cSeq a e h = (a e h).bind fun d h1 => seqB (frz h1 d) := rfl
@[simp] theorem seqB_lst (ds : List D) : seqB (.lst ds, h) = .ok ds h := rfl
@[simp] theorem seqB_tup (ds : List D) : seqB (.tup ds, h) = .ok ds h := rfl
@[simp] theorem frz_lst (ds : List D) : frz h (.lst ds) = (.lst ds, h) := rfl
@[simp] theorem frz_tup (ds : List D) : frz h (.tup ds) = (.tup ds, h) := rfl
theorem frz_ref {n : Nat} {ds : List D} (hn : h[n]? = some (.lst ds)) : frz h (.ref n) = (.lst ds, h.set n (.fz (.lst ds))) := by unfold frz; simp [hn]
@[simp] theorem wipeL_nil : wipeL e [] = e := rfl
@[simp] theorem wipeL_cons (v : Nat) (vs : List Nat) : wipeL e (v :: vs) = (wipeL e vs).set v none := rfl
@[simp] theorem cItStr_eq : cItStr a e h = (a e h).bind fun d h1 => match d with
  | .str cs => .ok (cs.map fun k => D.str [k]) h1
  | _ => .bad := rfl
@[simp] theorem cLc_eq (live : Bool) (vs : List Nat) (i : II) (tg : TGI) (tt : IT) : cLc live vs i tg tt a e h = (i e h).bind fun ds h1 => if ds.length ≤ LIM then (goLc tg tt a (wipeL e vs) ds h1).bind fun ys h2 => finLc live ys h2 else .bad := rfl
@[simp] theorem goLc_nil (tg : TGI) (tt : IT) : goLc tg tt a e [] h = .ok [] h := rfl
theorem goLc_cons' (tg : TGI) (tt : IT) (d : D) (ds : List D) : goLc tg tt a e (d :: ds) h = (match tg d e h with
    | none => .bad
    | some e1 => (noX (tt e1 h)).bind fun k h1 => bif k then (noX (a e1 h1)).bind fun y h2 => (goLc tg tt a e ds h2).bind fun ys h3 => .ok (y :: ys) h3 else goLc tg tt a e ds h1) := by
  rw [goLc_cons]
  cases tg d e h with
  | none => rfl
  | some e1 =>
    show (noX (tt e1 h)).bind _ = (noX (tt e1 h)).bind _
    congr 1; funext k h1; cases k <;> rfl
@[simp] theorem tAll_eq : tAll e h = .ok true h := rfl
@[simp] theorem finLc_f (ys : List D) : finLc false ys h = .ok (.lst ys) h := rfl
@[simp] theorem finLc_t (ys : List D) : finLc true ys h = .ok (.ref h.length) (h ++ [.lst ys]) := rfl
/-- a comprehension that does nothing to the small heap -/
theorem goLc_filter {tg : TGI} {tt : IT} {f : D → D} {p : D → Bool} : ∀ (ds : List D), (∀ d ∈ ds, ∃ e1, tg d e h = some e1 ∧ tt e1 h = .ok (p d) h ∧ (p d = true → a e1 h = .ok (f d) h)) → goLc tg tt a e ds h = .ok ((ds.filter p).map f) h
  | [], _ => rfl
  | d :: ds, H => by
    obtain ⟨e1, h1, h2, h3⟩ := H d List.mem_cons_self
    rw [goLc_cons', h1]
    dsimp only
    rw [h2]
    have ih := goLc_filter ds fun d hd => H d (List.mem_cons_of_mem _ hd)
    cases q : p d with
    | false => simp [q, ih]
    | true => simp [q, ih, h3 q]
theorem goLc_map {tg : TGI} {tt : IT} {f : D → D} (ds : List D) (H : ∀ d ∈ ds, ∃ e1, tg d e h = some e1 ∧ tt e1 h = .ok true h ∧ a e1 h = .ok (f d) h) : goLc tg tt a e ds h = .ok (ds.map f) h := by
  have := goLc_filter (h := h) (e := e) (a := a) (tg := tg) (tt := tt) (f := f) (p := fun _ => true) ds fun d hd => let ⟨e1, h1, h2, h3⟩ := H d hd; ⟨e1, h1, h2, fun _ => h3⟩
  rw [this]
  congr 2
  exact List.filter_eq_self.mpr fun _ _ => rfl
@[simp] theorem opAll_lst (ds : List D) : opAll h [.lst ds] = (blsOf ds).map fun bs => .bl (bs.all id) := rfl
@[simp] theorem opAny_lst (ds : List D) : opAny h [.lst ds] = (blsOf ds).map fun bs => .bl (bs.any id) := rfl
@[simp] theorem blsOf_nil : blsOf [] = some [] := rfl
@[simp] theorem blsOf_cons (b : Bool) (ds : List D) : blsOf (.bl b :: ds) = (blsOf ds).map (b :: ·) := rfl
theorem blsOf_map {α : Type} (f : α → Bool) : ∀ l : List α, blsOf (l.map fun x => .bl (f x)) = some (l.map f)
  | [] => rfl
  | x :: l => by
    show (blsOf (l.map fun x => .bl (f x))).map _ = _
    rw [blsOf_map f l]
    rfl
theorem set_last (h : Hs) (x y : Ent) : (h ++ [x]).set h.length y = h ++ [y] := by
  rw [List.set_append_right _ _ (Nat.le_refl _), Nat.sub_self]
  rfl
theorem get_last (h : Hs) (x : Ent) : (h ++ [x])[h.length]? = some x := by
  rw [List.getElem?_append_right (Nat.le_refl _), Nat.sub_self]
  rfl
theorem lk_last (h : Hs) (ds : List D) : lk (h ++ [.lst ds]) (.ref h.length) = .lst ds := lk_ref (get_last h _)
@[simp] theorem cMt_eq (ty : Hs → D → Bool) (op : Hs → D → List D → R D) : cMt ty op a ca e h = (a e h).bind fun d h1 => bif ty h1 d then (ca e h1).bind fun ds h2 => op h2 d ds else .bad := by
  show (a e h).bind _ = _
  congr 1
theorem app_last (h : Hs) (ds : List D) (y : D) (hl : ds.length < LIM) : opAppend (h ++ [.lst ds]) (.ref h.length) [y] = .ok .non (h ++ [.lst (ds ++ [y])]) := by
  have e : liveL (h ++ [.lst ds]) (.ref h.length) = some (h.length, ds) := by unfold liveL; dsimp only; rw [get_last]
  unfold opAppend
  dsimp only
  rw [e]
  show (if ds.length < LIM then R.ok D.non ((h ++ [Ent.lst ds]).set h.length (.lst (ds ++ [y]))) else .bad) = _
  rw [if_pos hl, set_last]
theorem isLs_last (h : Hs) (ds : List D) : isLs (h ++ [.lst ds]) (.ref h.length) = true := by
  unfold isLs
  rw [lk_last]
theorem opStr_int {i : Int} (hi : i.natAbs.log2 < 1920) : opStr h [.int i] = some (.str (figs i)) := by
  show (if i.natAbs.log2 < 1920 then some (D.str (figs i)) else none) = _
  rw [if_pos hi]
theorem opLen_str {s : List Nat} (hs : s.length ≤ LIM) : opLen h [.str s] = some (.int s.length) := by
  show (if s.length ≤ LIM then some (D.int s.length) else none) = _
  rw [if_pos hs]
theorem opAdd_str {s u : List Nat} (hs : s.length + u.length ≤ LIM) : opAdd h (.str s) (.str u) = some (.str (s ++ u)) := by
  show (if s.length + u.length ≤ LIM then some (D.str (s ++ u)) else none) = _
  rw [if_pos hs]
theorem opMul_str1 {k : Nat} {i : Int} (h0 : -(2 ^ 63) ≤ i) (h1 : i < 2 ^ 63) (h2 : i.toNat ≤ LIM) : opMul h (.str [k]) (.int i) = some (.str (List.replicate i.toNat k)) := by
  show (if decide (-(2 ^ 63) ≤ i) && (decide (i < 2 ^ 63) && decide (1 * i.toNat ≤ LIM)) then some (D.str (List.replicate i.toNat [k]).flatten) else none) = _
  have e : (List.replicate i.toNat [k]).flatten = List.replicate i.toNat k := by
    induction i.toNat with
    | zero => rfl
    | succ n ih => rw [List.replicate_succ, List.flatten_cons, ih, List.replicate_succ]; rfl
  rw [if_pos (by simp only [Bool.and_eq_true, decide_eq_true_eq]; exact ⟨h0, h1, by omega⟩), e]
@[simp] theorem opRev_lst (ds : List D) : opRev h (.lst ds) = some (.lst ds.reverse) := rfl
theorem strsOf_map : ∀ ss : List (List Nat), strsOf (ss.map D.str) = some ss
  | [] => rfl
  | s :: ss => by
    show (strsOf (ss.map D.str)).map (s :: ·) = _
    rw [strsOf_map ss]
    rfl
theorem joinL_nil : ∀ ss : List (List Nat), TL.joinL [] ss = ss.flatten
  | [] => rfl
  | [s] => by simp [TL.joinL]
  | s :: t :: ss => by
    have ih := joinL_nil (t :: ss)
    simp only [TL.joinL, List.flatten_cons] at ih ⊢
    simp [ih]
@[simp] theorem cJs_nil (acc : List Nat) : cJs [] acc e h = .ok (.str acc) h := rfl
@[simp] theorem cJs_cons (as : List IE) (acc : List Nat) : cJs (a :: as) acc e h = (a e h).bind fun d h1 => match d with
    | .str cs => if acc.length + cs.length ≤ LIM then cJs as (acc ++ cs) e h1 else .bad
    | _ => .bad := rfl
@[simp] theorem cFmt_eq : cFmt a e h = (a e h).bind fun d h1 => match d with
  | .str cs => if cs.length ≤ LIM then .ok (.str cs) h1 else .bad
  | .int i => if i.natAbs.log2 < 1920 then .ok (.str (figs i)) h1 else .bad
  | _ => .bad := rfl
@[simp] theorem cFld_eq (k i : Nat) : cFld k i a e h = (a e h).bind fun d h1 => match insAt h1 k d with
  | some (_, fs) => match fs[i]? with
    | some v => .ok v h1
    | none => .bad
  | none => .bad := rfl
@[simp] theorem cMeth_eq (fn : List D → Hs → R D) (k : Nat) : cMeth fn k a ca e h = (a e h).bind fun d h1 => match insAt h1 k d with
  | some _ => (ca e h1).bind fun ds h2 => fn (d :: ds) h2
  | none => .bad := by
  show (a e h).bind _ = _
  congr 1; funext d h1
  cases d with
  | ref n =>
    unfold insAt
    dsimp only
    cases h1[n]? with
    | none => rfl
    | some x => cases x with
      | ins k' fs =>
        dsimp only
        cases Nat.beq k' k <;> rfl
      | _ => rfl
  | _ => rfl
@[simp] theorem sFldA_eq (o : Hs → D → D → Option D) (k i : Nat) : sFldA o k i a b e h = (a e h).toS e fun x h1 => match insAt h1 k x with
  | some (_, fs) => match fs[i]? with
    | some d0 => (b e h1).toS e fun y h2 => match o h2 d0 y with
      | some z => match insAt h2 k x with
        | some (n, fs2) => match putD fs2 i z with
          | some fs' => .next e (h2.set n (.ins k fs'))
          | none => .bad
        | none => .bad
      | none => .bad
    | none => .bad
  | none => .bad := rfl
@[simp] theorem sAsgH_eq (t : TGH) : sAsgH t a e h = (a e h).toS e fun d h1 => match t d e h1 with
  | some p => .next p.1 p.2
  | none => .bad := rfl
@[simp] theorem hTup_tup (n : Nat) (u : TGsH) (ds : List D) : hTup n u (.tup ds) e h = if ds.length = n then u ds e h else none := rfl
@[simp] theorem hNil_eq : hNil [] e h = some (e, h) := rfl
@[simp] theorem hCons_eq (t : TGH) (u : TGsH) (d : D) (r : List D) : hCons t u (d :: r) e h = (t d e h).bind fun p => u r p.1 p.2 := rfl
@[simp] theorem hFld_eq (k i : Nat) : hFld k i a d e h = match a e h with
  | .ok x h1 => match insAt h1 k x with
    | some (n, fs) => match putD fs i d with
      | some fs' => some (e, h1.set n (.ins k fs'))
      | none => none
    | none => none
  | _ => none := rfl
@[simp] theorem cNew_eq (init : List D → Hs → R D) (k : Nat) : cNew init k ca e h = (ca e h).bind fun ds h1 => (init (.ref h1.length :: ds) (h1 ++ [.ins k []])).bind fun r h2 => match r with
  | .non => .ok (.ref h1.length) h2
  | _ => .bad := rfl
theorem insAt_last (h : Hs) (k : Nat) (fs : List D) : insAt (h ++ [.ins k fs]) k (.ref h.length) = some (h.length, fs) := by
  unfold insAt
  dsimp only
  rw [get_last]
  dsimp only
  rw [Nat.beq_refl]
/-- a cut of nonnegative ends -/
theorem sIx_nat (n d i : Nat) : HT.sIx n d (some (i : Int)) = min i n := by
  unfold HT.sIx
  dsimp only
  split <;> omega
@[simp] theorem cSl_eq (lo hi : Option IE) : cSl a lo hi e h = (a e h).bind fun d h1 => (cIntO lo e h1).bind fun l h2 => (cIntO hi e h2).bind fun u h3 => ofO (opSl h3 d l u) h3 := rfl
@[simp] theorem cIntO_n : cIntO none e h = .ok none h := rfl
@[simp] theorem cIntO_s : cIntO (some a) e h = (a e h).bind fun d h1 => match d with
    | .int i => .ok (some i) h1
    | _ => .bad := rfl
theorem sl1 (h : Hs) (t : List Nat) (p : Nat) (hl : t.length ≤ LIM) : opSl h (.str t) (some (p : Int)) (some ((p : Int) + 1)) = some (.str ((t.drop p).take 1)) := by
  show (if t.length ≤ LIM then some (D.str (cutD t (some (p : Int)) (some ((p : Int) + 1)))) else none) = _
  rw [if_pos hl]
  congr 2
  have e1 : ((p : Int) + 1) = ((p + 1 : Nat) : Int) := by omega
  unfold cutD
  rw [e1, sIx_nat, sIx_nat]
  by_cases hp : p < t.length
  · rw [Nat.min_eq_left (by omega), Nat.min_eq_left (by omega)]
    congr 1
    omega
  · rw [List.drop_eq_nil_of_le (by omega), List.drop_eq_nil_of_le (by omega)]
    simp
end
end Pi
end
section
set_option maxRecDepth 100000
set_option autoImplicit false
set_option maxHeartbeats 1000000
/-! HeadP: the head's facts, Malformed's too. -/
namespace Pi
open PySem PySem.Spec PyProof.Rows L2
abbrev FnM : Type := Option (Str × Str × Arguments × FuncBody × Scope × Addr × List Str × Value × Value × Addr)
def fnM (K : PySem.W.Frag) : FnM := match K.lookup (He.fAd K ("Malformed", some "__init__")) with
  | some ⟨_, _, .func fd, _⟩ => some (fd.name, fd.qualname, fd.params, fd.body, fd.scope, fd.globals, fd.closure.map (·.1), fd.defaults, fd.kwdefaults, fd.builtins)
  | _ => none
def mclsB (K : PySem.W.Frag) (C : Addr) : Bool := match K.lookup C with
  | some ⟨.type t, _, .cls cd, sl⟩ => (match cd.mro, sl.toList with
    | .ref C' :: bm, [_, _, _, _, some (.builtin n), _] => decide (t = "type") && (decide (C' = C) && (decide (n = "ValueError.__new__") && (cd.hasDict && (!cd.hasDel && (HandSPX.refsVE bm && He.eqO (PySem.W.alongIn K "__init__" bm) (some (some (.builtin "ValueError.__init__"))))))))
    | _, _ => false)
  | _ => false
theorem mclsB_ok {K : PySem.W.Frag} {C : Addr} (h : mclsB K C = true) : ∃ nm q N bs bm sn sub ab col dd k0 k1 k2 k3 k5, K.lookup C = some (excClassObj nm q C N bs bm true sn sub ab col dd k0 k1 k2 k3 k5 "ValueError.__new__") ∧ HandSPX.refsVE bm = true ∧ PySem.W.alongIn K "__init__" bm = some (some (.builtin "ValueError.__init__")) := by
  unfold mclsB at h
  split at h
  · rename_i t dd cd sl ho
    split at h
    · rename_i C' bm k0 k1 k2 k3 n k5 hm hs
      obtain ⟨h1, h⟩ := He.ba h
      obtain ⟨h2, h⟩ := He.ba h
      obtain ⟨h3, h⟩ := He.ba h
      obtain ⟨h4, h⟩ := He.ba h
      obtain ⟨h5, h⟩ := He.ba h
      obtain ⟨h6, h7⟩ := He.ba h
      have h1 := of_decide_eq_true h1
      have h2 := of_decide_eq_true h2
      have h3 := of_decide_eq_true h3
      have h7 := He.eqO_ok h7
      subst h1 h2 h3
      obtain ⟨nm, bs, mro, ns, qn, hd, sn, sub, ab, col, del⟩ := cd
      dsimp only at hm h4 h5
      subst hm h4
      have hdel : del = false := by simpa using h5
      subst hdel
      have hsl : sl = #[k0, k1, k2, k3, some (.builtin "ValueError.__new__"), k5] := by
        obtain ⟨l⟩ := sl
        simp only at hs
        rw [hs]
      subst hsl
      exact ⟨nm, qn, ns, bs, bm, sn, sub, ab, col, dd, k0, k1, k2, k3, k5, ho, h6, h7⟩
    · cases h
  · cases h
def mfnB (file : Str) (K : PySem.W.Frag) (C fI : Addr) : Bool := match K.lookup fI with
  | some ⟨_, _, .func fd, _⟩ => (match fd.closure, fd.code with
    | [(_, cc)], .ref cda => PySem.W.codeIn K (.ref cda) "Malformed.__init__" && ((match K.lookup cc with
        | some ⟨_, _, .cell (some v), _⟩ => decide (v = .ref C)
        | _ => false) && (match K.lookup cda with
        | some ⟨_, _, .fields vs, _⟩ => (match vs[2]? with
          | some (Value.str f _) => decide (f = file)
          | _ => false)
        | _ => false))
    | _, _ => false)
  | _ => false
def malB (file : Str) (K : PySem.W.Frag) : Bool :=
  mclsB K (He.ga K "Malformed") && (mfnB file K (He.ga K "Malformed") (He.fAd K ("Malformed", some "__init__")) && (He.eqO (PySem.W.nsIn K cStatics "thirdparty.any") (some none) && (He.eqO (PySem.W.findIn K (.ref (He.ga K "Malformed")) "__setattr__") (some (some (.builtin "object.__setattr__"))) &&
    (He.eqO (PySem.W.findIn K (.ref (He.ga K "Malformed")) "__getattribute__") (some (some (.builtin "BaseException.__getattribute__"))) && (He.eqO (PySem.W.findIn K (.ref (He.ga K "Malformed")) "__getattr__") (some none) && (He.eqO (PySem.W.findIn K (.ref (He.ga K "Malformed")) "at") (some none) &&
    (He.eqO (PySem.W.findIn K (.ref (He.ga K "Malformed")) "__init__") (some (some (.ref (He.fAd K ("Malformed", some "__init__"))))) && (decide (PySem.W.typeIn K (.ref (He.fAd K ("Malformed", some "__init__"))) = some (.type "function")) && (PySem.W.keepIn K (.ref (He.ga K "Malformed")) &&
    (decide (PySem.W.subIn K (.ref (He.ga K "Malformed")) (.type "BaseException") = some true) && (decide (PySem.W.subIn K (.ref (He.ga K "Malformed")) (.type "ValueError") = some true) && (decide (PySem.W.mroIn K (He.ga K "Malformed") (.ref (He.ga K "Malformed")) = some true) &&
    (decide (PySem.W.typeIn K (.ref (He.ga K "Malformed")) = some (.type "type")) && PySem.W.hasDictIn K (He.ga K "Malformed"))))))))))))))
theorem mal_of {P : Program} {K : PySem.W.Frag} {mg : Str → Option Value} {file : Str} {m : String} {j : Nat} {p1 p2 q1 q2 q4 q6 q7 q8 q9 q10 : Pos} {c3 d3 c5 d5 : Nat}
    (e : fnM K = some (("__init__" : Str), ("Malformed.__init__" : Str), PySem.MalX.iA p1 p2, FuncBody.stmts (PySem.MalX.iB m j q1 q2 c3 d3 q4 c5 d5 q6 q7 q8 q9 q10), PySem.MalX.iS, mainGlobals, (["__class__"] : List Str), Value.none, Value.none, builtinsNs))
    (b : malB file K = true) (hf : ((P.main.file : Str) == file) = true) (ht : (P.main.scope.names.lookup ("super" : Str)).isSome = false) (gC : mg "Malformed" = some (.ref (He.ga K "Malformed"))) (nS : mg "super" = none) :
    PySem.MalX.MalTxt P K mg (He.ga K "Malformed") (He.fAd K ("Malformed", some "__init__")) := by
  unfold malB at b
  obtain ⟨b1, b⟩ := He.ba b
  obtain ⟨b2, b⟩ := He.ba b
  obtain ⟨b3, b⟩ := He.ba b
  obtain ⟨b4, b⟩ := He.ba b
  obtain ⟨b5, b⟩ := He.ba b
  obtain ⟨b6, b⟩ := He.ba b
  obtain ⟨b7, b⟩ := He.ba b
  obtain ⟨b8, b⟩ := He.ba b
  obtain ⟨b9, b⟩ := He.ba b
  obtain ⟨b10, b⟩ := He.ba b
  obtain ⟨b11, b⟩ := He.ba b
  obtain ⟨b12, b⟩ := He.ba b
  obtain ⟨b13, b⟩ := He.ba b
  obtain ⟨b14, b15⟩ := He.ba b
  refine ⟨gC, nS, ht, mclsB_ok b1, He.eqO_ok b3, He.eqO_ok b4, He.eqO_ok b5, He.eqO_ok b6, He.eqO_ok b7, He.eqO_ok b8, of_decide_eq_true b9, b10, of_decide_eq_true b11, of_decide_eq_true b12, of_decide_eq_true b13, of_decide_eq_true b14, b15, ?_⟩
  unfold fnM at e
  unfold mfnB at b2
  cases q : K.lookup (He.fAd K ("Malformed", some "__init__")) with
  | none => rw [q] at e; cases e
  | some o =>
    obtain ⟨oc, od, dt, osl⟩ := o
    rw [q] at e b2
    cases dt with
    | func fd =>
      obtain ⟨n1, n2, n3, n4, n5, n6, n7, n8, n9, n10, n11, n12, n13, n14, n15⟩ := fd
      dsimp only at e b2
      simp only [Option.some.injEq, Prod.mk.injEq] at e
      obtain ⟨h1, h2, h3, h4, h5, h6, h7, h8, h9, h10⟩ := e
      subst h1 h2 h3 h4 h5 h6 h8 h9 h10
      split at b2
      · rename_i y cc cda
        obtain ⟨k1, k2⟩ := He.ba b2
        obtain ⟨k2, k3⟩ := He.ba k2
        have hy : y = "__class__" := by simpa using h7
        subst hy
        split at k2
        · rename_i cl cld v csl hcc
          have k2 := of_decide_eq_true k2
          subst k2
          split at k3
          · rename_i ccl cdd vs ccs hcd
            split at k3
            · rename_i f tf hvs
              have k3 := of_decide_eq_true k3
              subst k3
              exact ⟨cc, cda, oc, od, _, _, _, _, osl, m, j, p1, p2, q1, q2, c3, d3, q4, c5, d5, q6, q7, q8, q9, q10, cl, cld, csl, ccl, cdd, vs, ccs, _, tf, rfl, k1, hcc, hcd, hvs, hf⟩
            · cases k3
          · cases k3
        · cases k2
      · cases b2
    | _ => cases e
/-! ### the Hook -/
abbrev AlP : Type := Bool × List He.FnW × FnM
def obsP (ex : PySem.W.Frag → Bool) (fa : List He.Fa) (fn : List He.DefD) (K : PySem.W.Frag) : AlP := (((fa.all fun f => f.ok K) && fn.all fun d => d.ok K) && ex K, fn.map fun d => He.fnW K d.at_, fnM K)
def valP (fn : List He.DefD) (m : FnM) : AlP := (true, fn.map He.DefD.val, m)
def SaysP (ex : PySem.W.Frag → Bool) (fa : List He.Fa) (fn : List He.DefD) (m : FnM) (K : PySem.W.Frag) : Prop := obsP ex fa fn K = valP fn m
def obsPG (ex : PySem.W.Frag → Bool) (n : Nat) (fa : List He.Fa) (fn : List He.DefD) (g : Addr → Option Obj) : AlP := obsP ex fa fn (He.frG g (cStatics :: He.asD g n))
def hookP (ex : PySem.W.Frag → Bool) (n : Nat) (fa : List He.Fa) (fn : List He.DefD) (m : FnM) : PySem.W.Hook where
  α := AlP
  obs := fun s => obsPG ex n fa fn s.heap.get?
  val := fun _ => valP fn m
  says := fun _ h => ∃ K : PySem.W.Frag, K.In h ∧ SaysP ex fa fn m K
  of := fun _ _ e => ⟨_, He.frG_in, e⟩
  keeps := fun _ _ _ ⟨K, hK, c⟩ k => ⟨K, PySem.W.Frag.In.keeps hK k, c⟩
theorem obsPG_eq {ex : PySem.W.Frag → Bool} {n : Nat} {fa : List He.Fa} {fn : List He.DefD} {m : FnM} {g : Addr → Option Obj} {s : Shared} (h : ∀ a, g a = s.heap.get? a) : obsPG ex n fa fn g = (hookP ex n fa fn m).obs s := by
  have e : g = s.heap.get? := funext h
  rw [e] <;> rfl
section
variable {ex : PySem.W.Frag → Bool} {fa : List He.Fa} {fn : List He.DefD} {m : FnM} {K : PySem.W.Frag}
theorem SaysP.saysD (c : SaysP ex fa fn m K) : He.SaysD fa fn K ∧ ex K = true ∧ fnM K = m := by
  have c1 : (((fa.all fun f => f.ok K) && fn.all fun d => d.ok K) && ex K) = true := congrArg (fun z : AlP => z.1) c
  have c2 : fn.map (fun d => He.fnW K d.at_) = fn.map He.DefD.val := congrArg (fun z : AlP => z.2.1) c
  have c3 : fnM K = m := congrArg (fun z : AlP => z.2.2) c
  obtain ⟨c4, c5⟩ := He.ba c1
  refine ⟨?_, c5, c3⟩
  unfold He.SaysD He.obsD He.valD
  rw [c2, c4]
end
/-- as walk_ofE, the callee may raise in its own context (CX by world) -/
theorem walk_ofX {l : PySem.W.OpenLaw} {n k : Nat} {q : Program} {loose : List Str} {XP : (Str → Option Value) → Heap → Prop} {YP : World → Heap → Prop} {d : DefRec} {x : Str}
    (hn : l.most = some n) (hn2 : n ≤ sizeLine) (hdf : d.params.defaults = []) (hr : Room k callerA)
    (F : ∀ (w : World) (mg : Str → Option Value) (fa : Addr) (h : Heap), YP w h → h.Ns mainGlobals mg → mg d.name = some (.ref fa) →
      ∃ (K : PySem.W.Frag) (fd : FuncData) (sp : Sp), K.In h ∧ (∀ (s : Shared) (u : Value), BindsTo s fd ⟨[u], []⟩ [(x, u)]) ∧
        (∀ (H : Hp) (a : Addr) (ns : List Int), ns.length ≤ n → Only H → SqL K H a (ns.map V.int) → sp [.ref a] H (fun v _ => v = .bl true) fun _ _ _ => False) ∧
        ∀ base : Heap, K.In base → base.Ns mainGlobals mg → FnOk l.prog w K mg base (L2.CX l.prog w) k fa fd [x] sp) :
    PySem.W.WalkO q loose XP YP l.row.toRowW d [] (fun f vs => PySem.call f vs) := by
  refine Att.attach_call hn hdf fun w s₀ s₁ mg mb fa o pm cd doc a vs ns G Y ho hd hcd hmg hobj hints hlen hg => ?_
  obtain ⟨K, fd, sp, KX, hb, hsp, hF⟩ := F w mg fa _ Y G.T.g hmg
  exact law_call KX G.T.g G.T.b G.T.builtins G.T.nolimit hg hobj hints (Nat.le_trans hlen hn2) hr hF hb (fun H hO hS => hsp H a ns hlen hO hS) fun H e s' z => by
    obtain ⟨_, _, _, _, _, _, _, _, _, _, _, _, z⟩ := z
    exact z
end Pi
end
section
set_option autoImplicit true
set_option maxRecDepth 100000
set_option maxHeartbeats 0
namespace HeadK14
open PySem PySem.Spec PyProof.Rows L2
def top (i : Nat) : Stmt := PySem.Challenge.pw_asenacted_k14_whole_ratios_names_and_wor.main.body.getD i (.Pass ⟨0, 0, 0, 0⟩)
abbrev s_Malformed___init__ : Stmt := inClass (top 8) 0
abbrev s_check : Stmt := top 9
abbrev s_is_integer : Stmt := top 10
abbrev s_begins_and_goes_on : Stmt := top 11
abbrev s_is_name : Stmt := top 12
abbrev s_is_case_word : Stmt := top 13
abbrev s_is_path : Stmt := top 14
abbrev s_greatest_part : Stmt := top 15
abbrev s_is_ratio : Stmt := top 16
abbrev s_are_ordered : Stmt := top 17
abbrev s_is_day_number : Stmt := top 25
abbrev s_is_span : Stmt := top 26
abbrev s_leaps : Stmt := top 27
abbrev s_length_by : Stmt := top 28
abbrev s_days_ahead : Stmt := top 29
abbrev s_number_by : Stmt := top 30
abbrev s_need_number : Stmt := top 31
abbrev s_day_of : Stmt := top 32
abbrev s_date_by : Stmt := top 33
abbrev s_Signs___init__ : Stmt := inClass (top 35) 0
abbrev s_Signs_here : Stmt := inClass (top 35) 1
abbrev s_Signs_is_one_of : Stmt := inClass (top 35) 2
abbrev s_Signs_fail : Stmt := inClass (top 35) 3
abbrev s_Signs_took : Stmt := inClass (top 35) 4
abbrev s_Signs_take : Stmt := inClass (top 35) 5
abbrev s_Signs_run : Stmt := inClass (top 35) 6
abbrev s_Signs_name : Stmt := inClass (top 35) 7
abbrev s_Signs_case_word : Stmt := inClass (top 35) 8
abbrev s_Signs_figures : Stmt := inClass (top 35) 9
abbrev s_Signs_figure_run : Stmt := inClass (top 35) 10
abbrev s_Signs_two_figures : Stmt := inClass (top 35) 11
abbrev s_Signs_end : Stmt := inClass (top 35) 12
abbrev s_is_value : Stmt := top 43
abbrev s_rounded_by : Stmt := top 44
abbrev s_rounded : Stmt := top 45
abbrev s_ratio_by : Stmt := top 46
abbrev s_ratio_of : Stmt := top 47
abbrev s_compared_by : Stmt := top 48
abbrev s_compare_values : Stmt := top 49
abbrev s_padded : Stmt := top 50
abbrev s_figures_of : Stmt := top 51
abbrev s_plain_text : Stmt := top 52
abbrev s_value_text : Stmt := top 53
abbrev s_write_value : Stmt := top 54
abbrev s_ValueSigns_fit : Stmt := inClass (top 55) 0
abbrev s_ValueSigns_value : Stmt := inClass (top 55) 1
abbrev s_ValueSigns_truth : Stmt := inClass (top 55) 2
abbrev s_ValueSigns_case : Stmt := inClass (top 55) 3
abbrev s_ValueSigns_row : Stmt := inClass (top 55) 4
abbrev s_ValueSigns_form : Stmt := inClass (top 55) 5
abbrev s_ValueSigns_number : Stmt := inClass (top 55) 6
abbrev s_ValueSigns_money : Stmt := inClass (top 55) 7
abbrev s_ValueSigns_over : Stmt := inClass (top 55) 8
abbrev s_ValueSigns_span : Stmt := inClass (top 55) 9
abbrev s_ValueSigns_date : Stmt := inClass (top 55) 10
abbrev s_read_value : Stmt := top 56
abbrev s__law_draws : Stmt := top 58
abbrev s__law_same : Stmt := top 59
abbrev s__law_take : Stmt := top 60
abbrev s__law_pick : Stmt := top 61
abbrev s__law_common : Stmt := top 62
abbrev s__law_number : Stmt := top 63
abbrev s__law_least : Stmt := top 64
abbrev s__law_are_ratios_due : Stmt := top 65
abbrev s__law_is_rounded : Stmt := top 66
abbrev s__law_is_compared : Stmt := top 67
abbrev s__law_word : Stmt := top 68
abbrev s__law_are_words_due : Stmt := top 69
abbrev s__law_is_refused : Stmt := top 70
abbrev s_law : Stmt := top 71
def d_s_Malformed___init__ : He.DefD := ⟨("Malformed", some "__init__"), "__init__", "Malformed.__init__", defArgs s_Malformed___init__, defBody s_Malformed___init__, defScope s_Malformed___init__, [], []⟩
def d_s_check : He.DefD := ⟨("check", none), "check", "check", defArgs s_check, defBody s_check, defScope s_check, [], []⟩
def d_s_is_integer : He.DefD := ⟨("is_integer", none), "is_integer", "is_integer", defArgs s_is_integer, defBody s_is_integer, defScope s_is_integer, [], []⟩
def d_s_begins_and_goes_on : He.DefD := ⟨("begins_and_goes_on", none), "begins_and_goes_on", "begins_and_goes_on", defArgs s_begins_and_goes_on, defBody s_begins_and_goes_on, defScope s_begins_and_goes_on, [], []⟩
def d_s_is_name : He.DefD := ⟨("is_name", none), "is_name", "is_name", defArgs s_is_name, defBody s_is_name, defScope s_is_name, [], []⟩
def d_s_is_case_word : He.DefD := ⟨("is_case_word", none), "is_case_word", "is_case_word", defArgs s_is_case_word, defBody s_is_case_word, defScope s_is_case_word, [], []⟩
def d_s_is_path : He.DefD := ⟨("is_path", none), "is_path", "is_path", defArgs s_is_path, defBody s_is_path, defScope s_is_path, [], []⟩
def d_s_greatest_part : He.DefD := ⟨("greatest_part", none), "greatest_part", "greatest_part", defArgs s_greatest_part, defBody s_greatest_part, defScope s_greatest_part, [], []⟩
def d_s_is_ratio : He.DefD := ⟨("is_ratio", none), "is_ratio", "is_ratio", defArgs s_is_ratio, defBody s_is_ratio, defScope s_is_ratio, [], []⟩
def d_s_are_ordered : He.DefD := ⟨("are_ordered", none), "are_ordered", "are_ordered", defArgs s_are_ordered, defBody s_are_ordered, defScope s_are_ordered, [], []⟩
def d_s_is_day_number : He.DefD := ⟨("is_day_number", none), "is_day_number", "is_day_number", defArgs s_is_day_number, defBody s_is_day_number, defScope s_is_day_number, [], []⟩
def d_s_is_span : He.DefD := ⟨("is_span", none), "is_span", "is_span", defArgs s_is_span, defBody s_is_span, defScope s_is_span, [], []⟩
def d_s_leaps : He.DefD := ⟨("leaps", none), "leaps", "leaps", defArgs s_leaps, defBody s_leaps, defScope s_leaps, [], []⟩
def d_s_length_by : He.DefD := ⟨("length_by", none), "length_by", "length_by", defArgs s_length_by, defBody s_length_by, defScope s_length_by, [], []⟩
def d_s_days_ahead : He.DefD := ⟨("days_ahead", none), "days_ahead", "days_ahead", defArgs s_days_ahead, defBody s_days_ahead, defScope s_days_ahead, [], []⟩
def d_s_number_by : He.DefD := ⟨("number_by", none), "number_by", "number_by", defArgs s_number_by, defBody s_number_by, defScope s_number_by, [], []⟩
def d_s_need_number : He.DefD := ⟨("need_number", none), "need_number", "need_number", defArgs s_need_number, defBody s_need_number, defScope s_need_number, [], []⟩
def d_s_day_of : He.DefD := ⟨("day_of", none), "day_of", "day_of", defArgs s_day_of, defBody s_day_of, defScope s_day_of, [], []⟩
def d_s_date_by : He.DefD := ⟨("date_by", none), "date_by", "date_by", defArgs s_date_by, defBody s_date_by, defScope s_date_by, [], []⟩
def d_s_Signs___init__ : He.DefD := ⟨("Signs", some "__init__"), "__init__", "Signs.__init__", defArgs s_Signs___init__, defBody s_Signs___init__, defScope s_Signs___init__, [], []⟩
def d_s_Signs_here : He.DefD := ⟨("Signs", some "here"), "here", "Signs.here", defArgs s_Signs_here, defBody s_Signs_here, defScope s_Signs_here, [], []⟩
def d_s_Signs_is_one_of : He.DefD := ⟨("Signs", some "is_one_of"), "is_one_of", "Signs.is_one_of", defArgs s_Signs_is_one_of, defBody s_Signs_is_one_of, defScope s_Signs_is_one_of, [], []⟩
def d_s_Signs_fail : He.DefD := ⟨("Signs", some "fail"), "fail", "Signs.fail", defArgs s_Signs_fail, defBody s_Signs_fail, defScope s_Signs_fail, [], []⟩
def d_s_Signs_took : He.DefD := ⟨("Signs", some "took"), "took", "Signs.took", defArgs s_Signs_took, defBody s_Signs_took, defScope s_Signs_took, [], []⟩
def d_s_Signs_take : He.DefD := ⟨("Signs", some "take"), "take", "Signs.take", defArgs s_Signs_take, defBody s_Signs_take, defScope s_Signs_take, [], []⟩
def d_s_Signs_run : He.DefD := ⟨("Signs", some "run"), "run", "Signs.run", defArgs s_Signs_run, defBody s_Signs_run, defScope s_Signs_run, [], []⟩
def d_s_Signs_name : He.DefD := ⟨("Signs", some "name"), "name", "Signs.name", defArgs s_Signs_name, defBody s_Signs_name, defScope s_Signs_name, [], []⟩
def d_s_Signs_case_word : He.DefD := ⟨("Signs", some "case_word"), "case_word", "Signs.case_word", defArgs s_Signs_case_word, defBody s_Signs_case_word, defScope s_Signs_case_word, [], []⟩
def d_s_Signs_figures : He.DefD := ⟨("Signs", some "figures"), "figures", "Signs.figures", defArgs s_Signs_figures, defBody s_Signs_figures, defScope s_Signs_figures, [], []⟩
def d_s_Signs_figure_run : He.DefD := ⟨("Signs", some "figure_run"), "figure_run", "Signs.figure_run", defArgs s_Signs_figure_run, defBody s_Signs_figure_run, defScope s_Signs_figure_run, [], []⟩
def d_s_Signs_two_figures : He.DefD := ⟨("Signs", some "two_figures"), "two_figures", "Signs.two_figures", defArgs s_Signs_two_figures, defBody s_Signs_two_figures, defScope s_Signs_two_figures, [], []⟩
def d_s_Signs_end : He.DefD := ⟨("Signs", some "end"), "end", "Signs.end", defArgs s_Signs_end, defBody s_Signs_end, defScope s_Signs_end, [], []⟩
def d_s_is_value : He.DefD := ⟨("is_value", none), "is_value", "is_value", defArgs s_is_value, defBody s_is_value, defScope s_is_value, [], []⟩
def d_s_rounded_by : He.DefD := ⟨("rounded_by", none), "rounded_by", "rounded_by", defArgs s_rounded_by, defBody s_rounded_by, defScope s_rounded_by, [], []⟩
def d_s_rounded : He.DefD := ⟨("rounded", none), "rounded", "rounded", defArgs s_rounded, defBody s_rounded, defScope s_rounded, [], []⟩
def d_s_ratio_by : He.DefD := ⟨("ratio_by", none), "ratio_by", "ratio_by", defArgs s_ratio_by, defBody s_ratio_by, defScope s_ratio_by, [], []⟩
def d_s_ratio_of : He.DefD := ⟨("ratio_of", none), "ratio_of", "ratio_of", defArgs s_ratio_of, defBody s_ratio_of, defScope s_ratio_of, [], []⟩
def d_s_compared_by : He.DefD := ⟨("compared_by", none), "compared_by", "compared_by", defArgs s_compared_by, defBody s_compared_by, defScope s_compared_by, [], []⟩
def d_s_compare_values : He.DefD := ⟨("compare_values", none), "compare_values", "compare_values", defArgs s_compare_values, defBody s_compare_values, defScope s_compare_values, [], []⟩
def d_s_padded : He.DefD := ⟨("padded", none), "padded", "padded", defArgs s_padded, defBody s_padded, defScope s_padded, [], []⟩
def d_s_figures_of : He.DefD := ⟨("figures_of", none), "figures_of", "figures_of", defArgs s_figures_of, defBody s_figures_of, defScope s_figures_of, [], []⟩
def d_s_plain_text : He.DefD := ⟨("plain_text", none), "plain_text", "plain_text", defArgs s_plain_text, defBody s_plain_text, defScope s_plain_text, [], []⟩
def d_s_value_text : He.DefD := ⟨("value_text", none), "value_text", "value_text", defArgs s_value_text, defBody s_value_text, defScope s_value_text, [], []⟩
def d_s_write_value : He.DefD := ⟨("write_value", none), "write_value", "write_value", defArgs s_write_value, defBody s_write_value, defScope s_write_value, [], []⟩
def d_s_ValueSigns_fit : He.DefD := ⟨("ValueSigns", some "fit"), "fit", "ValueSigns.fit", defArgs s_ValueSigns_fit, defBody s_ValueSigns_fit, defScope s_ValueSigns_fit, [], []⟩
def d_s_ValueSigns_value : He.DefD := ⟨("ValueSigns", some "value"), "value", "ValueSigns.value", defArgs s_ValueSigns_value, defBody s_ValueSigns_value, defScope s_ValueSigns_value, [], []⟩
def d_s_ValueSigns_truth : He.DefD := ⟨("ValueSigns", some "truth"), "truth", "ValueSigns.truth", defArgs s_ValueSigns_truth, defBody s_ValueSigns_truth, defScope s_ValueSigns_truth, [], []⟩
def d_s_ValueSigns_case : He.DefD := ⟨("ValueSigns", some "case"), "case", "ValueSigns.case", defArgs s_ValueSigns_case, defBody s_ValueSigns_case, defScope s_ValueSigns_case, [], []⟩
def d_s_ValueSigns_row : He.DefD := ⟨("ValueSigns", some "row"), "row", "ValueSigns.row", defArgs s_ValueSigns_row, defBody s_ValueSigns_row, defScope s_ValueSigns_row, [], []⟩
def d_s_ValueSigns_form : He.DefD := ⟨("ValueSigns", some "form"), "form", "ValueSigns.form", defArgs s_ValueSigns_form, defBody s_ValueSigns_form, defScope s_ValueSigns_form, [], []⟩
def d_s_ValueSigns_number : He.DefD := ⟨("ValueSigns", some "number"), "number", "ValueSigns.number", defArgs s_ValueSigns_number, defBody s_ValueSigns_number, defScope s_ValueSigns_number, [], []⟩
def d_s_ValueSigns_money : He.DefD := ⟨("ValueSigns", some "money"), "money", "ValueSigns.money", defArgs s_ValueSigns_money, defBody s_ValueSigns_money, defScope s_ValueSigns_money, [], []⟩
def d_s_ValueSigns_over : He.DefD := ⟨("ValueSigns", some "over"), "over", "ValueSigns.over", defArgs s_ValueSigns_over, defBody s_ValueSigns_over, defScope s_ValueSigns_over, [], []⟩
def d_s_ValueSigns_span : He.DefD := ⟨("ValueSigns", some "span"), "span", "ValueSigns.span", defArgs s_ValueSigns_span, defBody s_ValueSigns_span, defScope s_ValueSigns_span, [], []⟩
def d_s_ValueSigns_date : He.DefD := ⟨("ValueSigns", some "date"), "date", "ValueSigns.date", defArgs s_ValueSigns_date, defBody s_ValueSigns_date, defScope s_ValueSigns_date, [], []⟩
def d_s_read_value : He.DefD := ⟨("read_value", none), "read_value", "read_value", defArgs s_read_value, defBody s_read_value, defScope s_read_value, [], []⟩
def d_s__law_draws : He.DefD := ⟨("_law_draws", none), "_law_draws", "_law_draws", defArgs s__law_draws, defBody s__law_draws, defScope s__law_draws, [], []⟩
def d_s__law_same : He.DefD := ⟨("_law_same", none), "_law_same", "_law_same", defArgs s__law_same, defBody s__law_same, defScope s__law_same, [], []⟩
def d_s__law_take : He.DefD := ⟨("_law_take", none), "_law_take", "_law_take", defArgs s__law_take, defBody s__law_take, defScope s__law_take, [], []⟩
def d_s__law_pick : He.DefD := ⟨("_law_pick", none), "_law_pick", "_law_pick", defArgs s__law_pick, defBody s__law_pick, defScope s__law_pick, [], []⟩
def d_s__law_common : He.DefD := ⟨("_law_common", none), "_law_common", "_law_common", defArgs s__law_common, defBody s__law_common, defScope s__law_common, [], []⟩
def d_s__law_number : He.DefD := ⟨("_law_number", none), "_law_number", "_law_number", defArgs s__law_number, defBody s__law_number, defScope s__law_number, [], []⟩
def d_s__law_least : He.DefD := ⟨("_law_least", none), "_law_least", "_law_least", defArgs s__law_least, defBody s__law_least, defScope s__law_least, [], []⟩
def d_s__law_are_ratios_due : He.DefD := ⟨("_law_are_ratios_due", none), "_law_are_ratios_due", "_law_are_ratios_due", defArgs s__law_are_ratios_due, defBody s__law_are_ratios_due, defScope s__law_are_ratios_due, [], []⟩
def d_s__law_is_rounded : He.DefD := ⟨("_law_is_rounded", none), "_law_is_rounded", "_law_is_rounded", defArgs s__law_is_rounded, defBody s__law_is_rounded, defScope s__law_is_rounded, [], []⟩
def d_s__law_is_compared : He.DefD := ⟨("_law_is_compared", none), "_law_is_compared", "_law_is_compared", defArgs s__law_is_compared, defBody s__law_is_compared, defScope s__law_is_compared, [], []⟩
def d_s__law_word : He.DefD := ⟨("_law_word", none), "_law_word", "_law_word", defArgs s__law_word, defBody s__law_word, defScope s__law_word, [], []⟩
def d_s__law_are_words_due : He.DefD := ⟨("_law_are_words_due", none), "_law_are_words_due", "_law_are_words_due", defArgs s__law_are_words_due, defBody s__law_are_words_due, defScope s__law_are_words_due, [], []⟩
def d_s__law_is_refused : He.DefD := ⟨("_law_is_refused", none), "_law_is_refused", "_law_is_refused", defArgs s__law_is_refused, defBody s__law_is_refused, defScope s__law_is_refused, [], []⟩
def d_s_law : He.DefD := ⟨("law", none), "law", "law", defArgs s_law, defBody s_law, defScope s_law, [], []⟩
def fn : List He.DefD := [d_s_check, d_s_is_integer, d_s_begins_and_goes_on, d_s_is_name, d_s_is_case_word, d_s_is_path, d_s_greatest_part, d_s_is_ratio, d_s_are_ordered, d_s_is_day_number, d_s_is_span, d_s_leaps, d_s_length_by, d_s_days_ahead, d_s_number_by, d_s_need_number, d_s_day_of, d_s_date_by, d_s_Signs___init__, d_s_Signs_here, d_s_Signs_is_one_of, d_s_Signs_fail, d_s_Signs_took, d_s_Signs_take, d_s_Signs_run, d_s_Signs_name, d_s_Signs_case_word, d_s_Signs_figures, d_s_Signs_figure_run, d_s_Signs_two_figures, d_s_Signs_end, d_s_is_value, d_s_rounded_by, d_s_rounded, d_s_ratio_by, d_s_ratio_of, d_s_compared_by, d_s_compare_values, d_s_padded, d_s_figures_of, d_s_plain_text, d_s_value_text, d_s_write_value, d_s_ValueSigns_fit, d_s_ValueSigns_value, d_s_ValueSigns_truth, d_s_ValueSigns_case, d_s_ValueSigns_row, d_s_ValueSigns_form, d_s_ValueSigns_number, d_s_ValueSigns_money, d_s_ValueSigns_over, d_s_ValueSigns_span, d_s_ValueSigns_date, d_s_read_value, d_s__law_draws, d_s__law_same, d_s__law_take, d_s__law_pick, d_s__law_common, d_s__law_number, d_s__law_least, d_s__law_are_ratios_due, d_s__law_is_rounded, d_s__law_is_compared, d_s__law_word, d_s__law_are_words_due, d_s__law_is_refused, d_s_law]
def fa : List He.Fa := [.glo "check", .glo "is_integer", .glo "begins_and_goes_on", .glo "is_name", .glo "is_case_word", .glo "is_path", .glo "greatest_part", .glo "is_ratio", .glo "are_ordered", .glo "is_day_number", .glo "is_span", .glo "leaps", .glo "length_by", .glo "days_ahead", .glo "number_by", .glo "need_number", .glo "day_of", .glo "date_by", .glo "is_value", .glo "rounded_by", .glo "rounded", .glo "ratio_by", .glo "ratio_of", .glo "compared_by", .glo "compare_values", .glo "padded", .glo "figures_of", .glo "plain_text", .glo "value_text", .glo "write_value", .glo "read_value", .glo "_law_draws", .glo "_law_same", .glo "_law_take", .glo "_law_pick", .glo "_law_common", .glo "_law_number", .glo "_law_least", .glo "_law_are_ratios_due", .glo "_law_is_rounded", .glo "_law_is_compared", .glo "_law_word", .glo "_law_are_words_due", .glo "_law_is_refused", .glo "law"]
def nm0 : List PySem.Str := ["LONGEST_NAME", "SMALL", "LARGE", "FIGURES", "RuleError", "NotRight", "NoAnswer", "Malformed", "check", "is_integer", "begins_and_goes_on", "is_name", "is_case_word", "is_path", "greatest_part", "is_ratio"]
def nm1 : List PySem.Str := ["are_ordered", "FIRST_YEAR", "LAST_DAY", "MOST_SPAN", "MONTHS", "LENGTHS", "FEBRUARY", "is_day_number", "is_span", "leaps", "length_by", "days_ahead", "number_by", "need_number", "day_of", "date_by"]
def nm2 : List PySem.Str := ["Signs", "WAYS", "COMPARED", "CENTS", "YEAR_FIGURES", "LONG_FIGURES", "LONG", "is_value", "rounded_by", "rounded", "ratio_by", "ratio_of", "compared_by", "compare_values", "padded", "figures_of"]
def nm3 : List PySem.Str := ["plain_text", "value_text", "write_value", "ValueSigns", "read_value", "_law_draws", "_law_same", "_law_take", "_law_pick", "_law_common", "_law_number", "_law_least", "_law_are_ratios_due", "_law_is_rounded", "_law_is_compared", "_law_word"]
def nm4 : List PySem.Str := ["_law_are_words_due", "_law_is_refused"]
def loose : List PySem.Str := nm0 ++ nm1 ++ nm2 ++ nm3 ++ nm4
abbrev R : PySem.W.OpenRow := PySem.W.OpenLaw.row PySem.Challenge.rw_asenacted_k14_whole_ratios_names_and_wor
abbrev hk : PySem.W.Hook := He.hookD 6 fa fn
def ob (s : PySem.W.SharedT) : He.AlD := He.obsDG 6 fa fn (HandSHeadRun.getT s)
theorem ob_eq (s : PySem.W.SharedT) : ob s = hk.obs s.abs := He.obsDG_eq (HandSHeadRun.getT_eq s)
end HeadK14
end
section
set_option maxRecDepth 100000
set_option autoImplicit false
/-! the pure functions of k14 (printed by gen.py) -/
namespace K14
open PySem PySem.Spec PyProof.Rows L2 Pi
abbrev fuelW : Nat := 100000
def ct_Malformed : Nat → Option Bool
  | 0 => some false
  | 1 => some false
  | 2 => some true
  | _ => none
def ct_NotRight : Nat → Option Bool
  | 0 => some true
  | 1 => some false
  | 2 => some false
  | _ => none
def b__law_draws_5 : IS := (sRet (cLstRev true (cVar 1)))
def b__law_draws_4 : IS := sSeq (sFor (cRng1 (aCons (cC (.int (9000))) aNil)) (gNm 5) (sSeq (sSet 6 (cOp opMod (cB opInt (aCons (cOp opAdd (cOp opMul (cVar 6) (cC (.int (48271)))) (cC (.int (69621)))) aNil)) (cC (.int (2147483647))))) (sExpr (cMt isLs opAppend (cVar 1) (aCons (cOp opFdiv (cVar 6) (cC (.int (5)))) aNil))))) b__law_draws_5
def b__law_draws_3 : IS := sSeq (sIf (tBl (cOp opGt (cB opLen (aCons (cVar 0) aNil)) (cC (.int (0))))) (sSet 6 (cOp opAdd (cC (.int (1))) (cB opAbs (aCons (cOp opIx (cVar 0) (cC (.int (0)))) aNil)))) sNil) b__law_draws_4
def b__law_draws_2 : IS := sSeq (sSet 6 (cC (.int (1)))) b__law_draws_3
def b__law_draws_1 : IS := sSeq (sFor (cSeq (cVar 0)) (gNm 2) (sSeq (sSet 3 (cOp opMod (cB opInt (aCons (cB opAbs (aCons (cVar 2) aNil)) aNil)) (cOp opPow (cC (.int (997))) (cC (.int (60)))))) (sSeq (sIf (tBl (cOp opLt (cVar 3) (cOp opPow (cC (.int (10))) (cC (.int (18)))))) (sSeq (sSet 4 (cOp opMod (cB opInt (aCons (cOp opAdd (cOp opMul (cVar 3) (cC (.int (48271)))) (cC (.int (11)))) aNil)) (cC (.int (2147483647))))) (sSeq (sExpr (cMt isLs opAppend (cVar 1) (aCons (cOp opMod (cB opInt (aCons (cOp opAdd (cOp opMul (cVar 4) (cC (.int (69621)))) (cVar 3)) aNil)) (cC (.int (2147483629)))) aNil))) (sSeq (sExpr (cMt isLs opAppend (cVar 1) (aCons (cOp opMod (cB opInt (aCons (cOp opAdd (cVar 4) (cOp opFdiv (cVar 3) (cC (.int (7))))) aNil)) (cC (.int (1000003)))) aNil))) (sSet 3 (cC (.int (0))))))) sNil) (sFor (cRng1 (aCons (cC (.int (60))) aNil)) (gNm 5) (sIf (tBl (cOp opGt (cVar 3) (cC (.int (0))))) (sSeq (sExpr (cMt isLs opAppend (cVar 1) (aCons (cOp opMod (cB opInt (aCons (cVar 3) aNil)) (cC (.int (997)))) aNil))) (sSet 3 (cOp opFdiv (cVar 3) (cC (.int (997)))))) sNil))))) b__law_draws_2
def b__law_draws : IS := sSeq (sSet 1 (cLstL aNil)) b__law_draws_1
def f__law_draws : List D → Hs → R D := mkFn 1 7 b__law_draws
def b__law_take : IS := (sSeq (sIf (tBl (cOp opEq (cB opLen (aCons (cVar 0) aNil)) (cC (.int (0))))) (sRet (cC (.int (0)))) sNil) (sRet (cOp opMod (cB opInt (aCons (cMt isLs opPop (cVar 0) aNil) aNil)) (cVar 1))))
def f__law_take : List D → Hs → R D := mkFn 2 2 b__law_take
def b__law_pick : IS := (sRet (cOp opIx (cVar 1) (cCall f__law_take (aCons (cVar 0) (aCons (cB opLen (aCons (cVar 1) aNil)) aNil)))))
def f__law_pick : List D → Hs → R D := mkFn 2 2 b__law_pick
def b__law_number : IS := (sSeq (sSet 1 (cCall f__law_take (aCons (cVar 0) (aCons (cC (.int (5))) aNil)))) (sSeq (sIf (tBl (cOp opEq (cVar 1) (cC (.int (0))))) (sRet (cCall f__law_take (aCons (cVar 0) (aCons (cC (.int (13))) aNil)))) sNil) (sSeq (sIf (tBl (cOp opEq (cVar 1) (cC (.int (1))))) (sRet (cOp opMul (cCall f__law_take (aCons (cVar 0) (aCons (cC (.int (1000))) aNil))) (cCall f__law_pick (aCons (cVar 0) (aCons (cLst (aCons (cC (.int (2))) (aCons (cC (.int (3))) (aCons (cC (.int (6))) (aCons (cC (.int (10))) (aCons (cC (.int (49))) aNil)))))) aNil))))) sNil) (sSeq (sIf (tBl (cOp opEq (cVar 1) (cC (.int (2))))) (sRet (cOp opAdd (cOp opPow (cC (.int (10))) (cC (.int (30)))) (cCall f__law_take (aCons (cVar 0) (aCons (cC (.int (1000))) aNil))))) sNil) (sRet (cIfE (tBl (cOp opEq (cVar 1) (cC (.int (3))))) (cOp opMul (cOp opMul (cCall f__law_take (aCons (cVar 0) (aCons (cC (.int (1000))) aNil))) (cCall f__law_take (aCons (cVar 0) (aCons (cC (.int (1000))) aNil)))) (cOp opPow (cC (.int (10))) (cC (.int (12))))) (cOp opAdd (cC (.int (1))) (cCall f__law_take (aCons (cVar 0) (aCons (cC (.int (100))) aNil))))))))))
def f__law_number : List D → Hs → R D := mkFn 1 2 b__law_number
def b__law_common : IS := (sSeq (sPar 2 3 (cB opAbs (aCons (cVar 0) aNil)) (cB opAbs (aCons (cVar 1) aNil))) (sSeq (sFor (cRng1 (aCons (cC (.int (3000))) aNil)) (gNm 4) (sIf (tBl (cOp opGt (cVar 3) (cC (.int (0))))) (sPar 2 3 (cVar 3) (cOp opMod (cB opInt (aCons (cVar 2) aNil)) (cVar 3))) sNil)) (sRet (cVar 2))))
def f__law_common : List D → Hs → R D := mkFn 2 5 b__law_common
def b__law_least : IS := (sSeq (sSet 2 (cCall f__law_common (aCons (cVar 0) (aCons (cVar 1) aNil)))) (sRet (cIfE (tBl (cOp opGt (cVar 1) (cC (.int (0))))) (cTup (aCons (cOp opFdiv (cVar 0) (cVar 2)) (aCons (cOp opFdiv (cVar 1) (cVar 2)) aNil))) (cTup (aCons (cOp opSub (cC (.int (0))) (cOp opFdiv (cVar 0) (cVar 2))) (aCons (cOp opSub (cC (.int (0))) (cOp opFdiv (cVar 1) (cVar 2))) aNil))))))
def f__law_least : List D → Hs → R D := mkFn 2 3 b__law_least
def b_is_integer : IS := (sRet (cAndV (cIs .int (cVar 0)) (cNotV (cIs .bool (cVar 0)))))
def f_is_integer : List D → Hs → R D := mkFn 1 1 b_is_integer
def b_check : IS := (sIf (tNotI (tV (cVar 0))) (sRaise 0) sNil)
def f_check : List D → Hs → R D := mkFn 1 1 b_check
def b_greatest_part : IS := (sSeq (cWhile fuelW (tBl (cOp opGt (cVar 1) (cC (.int (0))))) (sPar 0 1 (cVar 1) (cOp opMod (cVar 0) (cVar 1)))) (sRet (cVar 0)))
def f_greatest_part : List D → Hs → R D := mkFn 2 2 b_greatest_part
def b_ratio_by : IS := (sSeq (sSet 2 (cCall f_greatest_part (aCons (cB opAbs (aCons (cVar 0) aNil)) (aCons (cB opAbs (aCons (cVar 1) aNil)) aNil)))) (sRet (cIfE (tBl (cOp opGt (cVar 1) (cC (.int (0))))) (cTup (aCons (cOp opFdiv (cVar 0) (cVar 2)) (aCons (cOp opFdiv (cVar 1) (cVar 2)) aNil))) (cTup (aCons (cOp opFdiv (cUn opNeg (cVar 0)) (cVar 2)) (aCons (cOp opFdiv (cUn opNeg (cVar 1)) (cVar 2)) aNil))))))
def f_ratio_by : List D → Hs → R D := mkFn 2 3 b_ratio_by
def b_ratio_of : IS := (sSeq (sExpr (cCall f_check (aCons (cAndV (cCall f_is_integer (aCons (cVar 0) aNil)) (cAndV (cCall f_is_integer (aCons (cVar 1) aNil)) (cOp opNe (cVar 1) (cC (.int (0)))))) aNil))) (sRet (cCall f_ratio_by (aCons (cVar 0) (aCons (cVar 1) aNil)))))
def f_ratio_of : List D → Hs → R D := mkFn 2 2 b_ratio_of
def b__law_same (f__law_same' : List D → Hs → R D) : IS := (sSeq (sIf (tV (cIs .dict (cVar 1))) (sSeq (sIf (tOrI (tNotI (tV (cIs .dict (cVar 0)))) (tBl (cOp opNe cBad cBad))) (sRet (cC (.bl false))) sNil) (sRet (cB opAll (aCons (cLc false [2] (cSeq (cVar 1)) (gNm 2) tAll (cCall f__law_same' (aCons (cOp opIx (cVar 0) (cVar 2)) (aCons (cOp opIx (cVar 1) (cVar 2)) aNil)))) aNil)))) sNil) (sSeq (sIf (tOrI (tV (cIs .tuple (cVar 1))) (tV (cIs .list (cVar 1)))) (sSeq (sIf (tOrI (tBl (cOp opNe (cIs .tuple (cVar 1)) (cIs .tuple (cVar 0)))) (tBl (cOp opNe (cIs .list (cVar 1)) (cIs .list (cVar 0))))) (sRet (cC (.bl false))) sNil) (sRet (cAndV (cOp opEq (cB opLen (aCons (cVar 0) aNil)) (cB opLen (aCons (cVar 1) aNil))) (cB opAll (aCons (cLc false [3] (cRng1 (aCons (cB opLen (aCons (cVar 1) aNil)) aNil)) (gNm 3) tAll (cCall f__law_same' (aCons (cOp opIx (cVar 0) (cVar 3)) (aCons (cOp opIx (cVar 1) (cVar 3)) aNil)))) aNil))))) sNil) (sSeq (sIf (tBl (cOp opIsN (cVar 1) (cC .non))) (sRet (cOp opIsN (cVar 0) (cC .non))) sNil) (sSeq (sIf (tBl (cOp opNe (cIs .bool (cVar 1)) (cIs .bool (cVar 0)))) (sRet (cC (.bl false))) sNil) (sSeq (sIf (tOrI (tBl (cOp opNe (cIs .int (cVar 1)) (cIs .int (cVar 0)))) (tBl (cOp opNe (cIs .str (cVar 1)) (cIs .str (cVar 0))))) (sRet (cC (.bl false))) sNil) (sRet (cOp opEq (cVar 0) (cVar 1))))))))
def f__law_same : Nat → List D → Hs → R D
  | 0 => fun _ _ => .bad
  | n + 1 => mkFn 2 4 (b__law_same (f__law_same n))
def b_is_ratio : IS := (sSeq (sIf (tOrI (tNotI (tV (cIs .tuple (cVar 0)))) (tOrI (tBl (cOp opNe (cB opLen (aCons (cVar 0) aNil)) (cC (.int (2))))) (tNotI (tV (cB opAll (aCons (cLc false [1] (cSeq (cVar 0)) (gNm 1) tAll (cCall f_is_integer (aCons (cVar 1) aNil))) aNil)))))) (sRet (cC (.bl false))) sNil) (sRet (cAndV (cOp opGt (cOp opIx (cVar 0) (cC (.int (1)))) (cC (.int (0)))) (cOp opEq (cCall f_greatest_part (aCons (cB opAbs (aCons (cOp opIx (cVar 0) (cC (.int (0)))) aNil)) (aCons (cOp opIx (cVar 0) (cC (.int (1)))) aNil))) (cC (.int (1)))))))
def f_is_ratio : List D → Hs → R D := mkFn 1 2 b_is_ratio
def b_begins_and_goes_on : IS := (sSeq (sIf (tOrI (tNotI (tV (cIs .str (cVar 0)))) (tOrI (tNotI (tBl (cChain opLe opLe (cC (.int (1))) (cB opLen (aCons (cVar 0) aNil)) (cC (.int (16)))))) (tBl (cOp opNotIn (cOp opIx (cVar 0) (cC (.int (0)))) (cVar 1))))) (sRet (cC (.bl false))) sNil) (sRet (cB opAll (aCons (cLc false [3] (cItStr (cVar 0)) (gNm 3) tAll (cOp opIn (cVar 3) (cVar 2))) aNil))))
def f_begins_and_goes_on : List D → Hs → R D := mkFn 3 4 b_begins_and_goes_on
def b_is_case_word : IS := (sRet (cCall f_begins_and_goes_on (aCons (cVar 0) (aCons (cC (.str [65, 66, 67, 68, 69, 70, 71, 72, 73, 74, 75, 76, 77, 78, 79, 80, 81, 82, 83, 84, 85, 86, 87, 88, 89, 90])) (aCons (cOp opAdd (cOp opAdd (cOp opAdd (cC (.str [97, 98, 99, 100, 101, 102, 103, 104, 105, 106, 107, 108, 109, 110, 111, 112, 113, 114, 115, 116, 117, 118, 119, 120, 121, 122])) (cC (.str [65, 66, 67, 68, 69, 70, 71, 72, 73, 74, 75, 76, 77, 78, 79, 80, 81, 82, 83, 84, 85, 86, 87, 88, 89, 90]))) (cC (.str [48, 49, 50, 51, 52, 53, 54, 55, 56, 57]))) (cC (.str [95]))) aNil)))))
def f_is_case_word : List D → Hs → R D := mkFn 1 1 b_is_case_word
def b_is_day_number : IS := (sRet (cAndV (cCall f_is_integer (aCons (cVar 0) aNil)) (cChain opLe opLe (cC (.int (0))) (cVar 0) (cC (.int (200000))))))
def f_is_day_number : List D → Hs → R D := mkFn 1 1 b_is_day_number
def b_is_value : IS := (sSeq (sIf (tV (cIs .int (cVar 0))) (sRet (cC (.bl true))) sNil) (sSeq (sIf (tOrI (tNotI (tV (cIs .tuple (cVar 0)))) (tOrI (tBl (cOp opLt (cB opLen (aCons (cVar 0) aNil)) (cC (.int (2))))) (tNotI (tV (cIs .str (cOp opIx (cVar 0) (cC (.int (0))))))))) (sRet (cC (.bl false))) sNil) (sSeq (sIf (tBl (cOp opEq (cOp opIx (cVar 0) (cC (.int (0)))) (cC (.str [99, 97, 115, 101])))) (sRet (cAndV (cOp opEq (cB opLen (aCons (cVar 0) aNil)) (cC (.int (3)))) (cAndV (cCall f_is_case_word (aCons (cOp opIx (cVar 0) (cC (.int (1)))) aNil)) (cOrV (cOp opIsN (cOp opIx (cVar 0) (cC (.int (2)))) (cC .non)) cBad)))) sNil) (sSeq (sIf (tBl (cOp opNe (cB opLen (aCons (cVar 0) aNil)) (cC (.int (2))))) (sRet (cC (.bl false))) sNil) (sSeq (sIf (tBl (cOp opEq (cOp opIx (cVar 0) (cC (.int (0)))) (cC (.str [114, 97, 116, 105, 111])))) (sRet (cCall f_is_ratio (aCons (cOp opIx (cVar 0) (cC (.int (1)))) aNil))) sNil) (sSeq (sIf (tBl (cOp opIn (cOp opIx (cVar 0) (cC (.int (0)))) (cTup (aCons (cC (.str [109, 111, 110, 101, 121])) (aCons (cC (.str [100, 97, 121])) aNil))))) (sRet (cIfE (tBl (cOp opEq (cOp opIx (cVar 0) (cC (.int (0)))) (cC (.str [109, 111, 110, 101, 121])))) (cCall f_is_integer (aCons (cOp opIx (cVar 0) (cC (.int (1)))) aNil)) (cCall f_is_day_number (aCons (cOp opIx (cVar 0) (cC (.int (1)))) aNil)))) sNil) (sSeq (sIf (tBl (cOp opEq (cOp opIx (cVar 0) (cC (.int (0)))) (cC (.str [115, 112, 97, 110])))) (sRet cBad) sNil) (sSeq (sIf (tBl (cOp opEq (cOp opIx (cVar 0) (cC (.int (0)))) (cC (.str [102, 111, 114, 109])))) (sRet (cAndV cBad (cB opAll (aCons cBad aNil)))) sNil) (sRet (cAndV (cOp opEq (cOp opIx (cVar 0) (cC (.int (0)))) (cC (.str [114, 111, 119]))) (cAndV (cIs .tuple (cOp opIx (cVar 0) (cC (.int (1))))) (cB opAll (aCons (cLc false [1] (cSeq (cOp opIx (cVar 0) (cC (.int (1))))) (gNm 1) tAll cBad) aNil)))))))))))))
def f_is_value : List D → Hs → R D := mkFn 1 2 b_is_value
def b_padded : IS := (sSeq (sSet 2 (cB opStr (aCons (cVar 0) aNil))) (sRet (cOp opAdd (cOp opMul (cC (.str [48])) (cOp opSub (cVar 1) (cB opLen (aCons (cVar 2) aNil)))) (cVar 2))))
def f_padded : List D → Hs → R D := mkFn 2 3 b_padded
def b_figures_of : IS := (sSeq (sPar 1 2 (cLstL aNil) (cB opAbs (aCons (cVar 0) aNil))) (sSeq (cWhile fuelW (tBl (cOp opGe (cVar 2) (cC (.int (1000000000000000000))))) (sSeq (sExpr (cMt isLs opAppend (cVar 1) (aCons (cCall f_padded (aCons (cOp opMod (cVar 2) (cC (.int (1000000000000000000)))) (aCons (cC (.int (18))) aNil))) aNil))) (sAug opFdiv 2 (cC (.int (1000000000000000000)))))) (sRet (cOp opAdd (cOp opAdd (cOp opMul (cC (.str [45])) (cB opInt (aCons (cOp opLt (cVar 0) (cC (.int (0)))) aNil))) (cB opStr (aCons (cVar 2) aNil))) (cMt isSt opJoin (cC (.str [])) (aCons (cUn opRev (cVar 1)) aNil))))))
def f_figures_of : List D → Hs → R D := mkFn 1 3 b_figures_of
def b_plain_text : IS := (sSeq (sIf (tBl (cOp opEq (cOp opIx (cVar 0) (cC (.int (0)))) (cC (.str [114, 97, 116, 105, 111])))) (sRet (cJs [(cFmt (cCall f_figures_of (aCons (cOp opIx (cOp opIx (cVar 0) (cC (.int (1)))) (cC (.int (0)))) aNil))), (cC (.str [47])), (cFmt (cCall f_figures_of (aCons (cOp opIx (cOp opIx (cVar 0) (cC (.int (1)))) (cC (.int (1)))) aNil)))] [])) sNil) (sSeq (sIf (tBl (cOp opEq (cOp opIx (cVar 0) (cC (.int (0)))) (cC (.str [109, 111, 110, 101, 121])))) (sSeq (sSet 1 (cB opAbs (aCons (cOp opIx (cVar 0) (cC (.int (1)))) aNil))) (sRet (cJs [(cFmt (cIfE (tBl (cOp opLt (cOp opIx (cVar 0) (cC (.int (1)))) (cC (.int (0))))) (cC (.str [45])) (cC (.str [])))), (cC (.str [36])), (cFmt (cCall f_figures_of (aCons (cOp opFdiv (cVar 1) (cC (.int (100)))) aNil))), (cC (.str [46])), (cFmt (cCall f_padded (aCons (cOp opMod (cVar 1) (cC (.int (100)))) (aCons (cC (.int (2))) aNil))))] []))) sNil) (sSeq (sIf (tBl (cOp opEq (cOp opIx (cVar 0) (cC (.int (0)))) (cC (.str [100, 97, 121])))) (sSeq (sAsg (gTupI 3 (gConsI (gNm 2) (gConsI (gNm 3) (gConsI (gNm 4) gNilI)))) cBad) (sRet (cJs [(cFmt (cVar 2)), (cC (.str [45])), (cFmt (cCall f_padded (aCons (cVar 3) (aCons (cC (.int (2))) aNil)))), (cC (.str [45])), (cFmt (cCall f_padded (aCons (cVar 4) (aCons (cC (.int (2))) aNil))))] []))) sNil) (sSeq (sAsg (gTupI 3 (gConsI (gNm 5) (gConsI (gNm 6) (gConsI (gNm 7) gNilI)))) (cOp opIx (cVar 0) (cC (.int (1))))) (sRet (cJs [(cFmt (cVar 5)), (cC (.str [121])), (cFmt (cVar 6)), (cC (.str [109])), (cFmt (cVar 7)), (cC (.str [100]))] []))))))
def f_plain_text : List D → Hs → R D := mkFn 1 8 b_plain_text
def b_value_text : IS := (sSeq (sIf (tV (cIs .bool (cVar 0))) (sRet (cIfE (tV (cVar 0)) (cC (.str [116, 114, 117, 101])) (cC (.str [102, 97, 108, 115, 101])))) sNil) (sSeq (sIf (tV (cIs .int (cVar 0))) (sRet (cCall f_figures_of (aCons (cVar 0) aNil))) sNil) (sSeq (sIf (tBl (cOp opEq (cOp opIx (cVar 0) (cC (.int (0)))) (cC (.str [99, 97, 115, 101])))) (sRet (cIfE (tBl (cOp opIsN (cOp opIx (cVar 0) (cC (.int (2)))) (cC .non))) (cOp opIx (cVar 0) (cC (.int (1)))) (cJs [(cFmt (cOp opIx (cVar 0) (cC (.int (1))))), (cC (.str [40])), (cFmt cBad), (cC (.str [41]))] []))) sNil) (sSeq (sIf (tBl (cOp opEq (cOp opIx (cVar 0) (cC (.int (0)))) (cC (.str [102, 111, 114, 109])))) (sRet (cOp opAdd (cOp opAdd (cC (.str [123])) (cMt isSt opJoin (cC (.str [44, 32])) (aCons cBad aNil))) (cC (.str [125])))) sNil) (sSeq (sIf (tBl (cOp opEq (cOp opIx (cVar 0) (cC (.int (0)))) (cC (.str [114, 111, 119])))) (sRet (cOp opAdd (cOp opAdd (cC (.str [91])) (cMt isSt opJoin (cC (.str [44, 32])) (aCons (cLc false [2] (cSeq (cOp opIx (cVar 0) (cC (.int (1))))) (gNm 2) tAll cBad) aNil))) (cC (.str [93])))) sNil) (sRet (cCall f_plain_text (aCons (cVar 0) aNil))))))))
def f_value_text : List D → Hs → R D := mkFn 1 3 b_value_text
def b_write_value : IS := (sSeq (sExpr (cCall f_check (aCons (cCall f_is_value (aCons (cVar 0) aNil)) aNil))) (sRet (cCall f_value_text (aCons (cVar 0) aNil))))
def f_write_value : List D → Hs → R D := mkFn 1 1 b_write_value
def b_Signs___init__ : IS := (sAsgH (hTup 2 (hCons (hFld 3 0 (cVar 0)) (hCons (hFld 3 1 (cVar 0)) hNil))) (cTup (aCons (cVar 1) (aCons (cC (.int (0))) aNil))))
def f_Signs___init__ : List D → Hs → R D := mkFn 2 2 b_Signs___init__
def b_Signs_here : IS := (sRet (cSl (cFld 3 0 (cVar 0)) (some (cFld 3 1 (cVar 0))) (some (cOp opAdd (cFld 3 1 (cVar 0)) (cC (.int (1)))))))
def f_Signs_here : List D → Hs → R D := mkFn 1 1 b_Signs_here
def b_Signs_is_one_of : IS := (sRet (cAndV (cOp opNe (cMeth f_Signs_here 3 (cVar 0) aNil) (cC (.str []))) (cOp opIn (cMeth f_Signs_here 3 (cVar 0) aNil) (cVar 1))))
def f_Signs_is_one_of : List D → Hs → R D := mkFn 2 2 b_Signs_is_one_of
def b_Signs_took : IS := (sSeq (sIf (tNotI (tV (cMt isSt opStartsAt (cFld 3 0 (cVar 0)) (aCons (cVar 1) (aCons (cFld 3 1 (cVar 0)) aNil))))) (sRet (cC (.bl false))) sNil) (sSeq (sFldA opIadd 3 1 (cVar 0) (cB opLen (aCons (cVar 1) aNil))) (sRet (cC (.bl true)))))
def f_Signs_took : List D → Hs → R D := mkFn 2 2 b_Signs_took
def b_Signs_figure_run : IS := (sSeq (sIf (tNotI (tV (cMeth f_Signs_is_one_of 3 (cVar 0) (aCons (cC (.str [48, 49, 50, 51, 52, 53, 54, 55, 56, 57])) aNil)))) (sExpr cBad) sNil) (sSeq (sSet 1 (cC (.int (0)))) (sSeq (cWhile fuelW (tV (cMeth f_Signs_is_one_of 3 (cVar 0) (aCons (cC (.str [48, 49, 50, 51, 52, 53, 54, 55, 56, 57])) aNil))) (sSeq (sSet 1 (cOp opAdd (cOp opMul (cVar 1) (cC (.int (10)))) (cMt isSt opIndexS (cC (.str [48, 49, 50, 51, 52, 53, 54, 55, 56, 57])) (aCons (cMeth f_Signs_here 3 (cVar 0) aNil) aNil)))) (sFldA opIadd 3 1 (cVar 0) (cC (.int (1)))))) (sRet (cVar 1)))))
def f_Signs_figure_run : List D → Hs → R D := mkFn 1 2 b_Signs_figure_run
def b_Signs_figures : IS := (sSeq (sIf (tV (cMeth f_Signs_took 3 (cVar 0) (aCons (cC (.str [48])) aNil))) (sSeq (sIf (tV (cMeth f_Signs_is_one_of 3 (cVar 0) (aCons (cC (.str [48, 49, 50, 51, 52, 53, 54, 55, 56, 57])) aNil))) (sExpr cBad) sNil) (sRet (cC (.int (0))))) sNil) (sRet (cMeth f_Signs_figure_run 3 (cVar 0) aNil)))
def f_Signs_figures : List D → Hs → R D := mkFn 1 1 b_Signs_figures
def b_ValueSigns_fit : IS := (sSeq (sIf (tNotI (tV (cVar 1))) (sRaiseM 2 (cVar 2)) sNil) (sRet (cVar 3)))
def f_ValueSigns_fit : List D → Hs → R D := mkFn 4 4 b_ValueSigns_fit
def b_ValueSigns_over : IS := (sSeq (sIf (tBl (cOp opEq (cMeth f_Signs_here 3 (cVar 0) aNil) (cC (.str [48])))) (sExpr cBad) sNil) (sSeq (sSet 3 (cMeth f_Signs_figures 3 (cVar 0) aNil)) (sRet (cMeth f_ValueSigns_fit 3 (cVar 0) (aCons (cOp opEq (cCall f_greatest_part (aCons (cB opAbs (aCons (cVar 2) aNil)) (aCons (cVar 3) aNil))) (cC (.int (1)))) (aCons (cVar 1) (aCons (cTup (aCons (cC (.str [114, 97, 116, 105, 111])) (aCons (cTup (aCons (cVar 2) (aCons (cVar 3) aNil))) aNil))) aNil)))))))
def f_ValueSigns_over : List D → Hs → R D := mkFn 3 4 b_ValueSigns_over
def b_ValueSigns_number : IS := (sSeq (sPar 1 2 (cFld 3 1 (cVar 0)) (cMeth f_Signs_took 3 (cVar 0) (aCons (cC (.str [45])) aNil))) (sSeq (sIf (tV (cMeth f_Signs_took 3 (cVar 0) (aCons (cC (.str [36])) aNil))) (sRet cBad) sNil) (sSeq (sIf (tAndI (tV (cVar 2)) (tBl (cOp opEq (cMeth f_Signs_here 3 (cVar 0) aNil) (cC (.str [48]))))) (sExpr cBad) sNil) (sSeq (sSet 3 (cFld 3 1 (cVar 0))) (sSeq (sSet 4 (cMeth f_Signs_figures 3 (cVar 0) aNil)) (sSeq (sIf (tV (cMeth f_Signs_took 3 (cVar 0) (aCons (cC (.str [47])) aNil))) (sRet (cMeth f_ValueSigns_over 3 (cVar 0) (aCons (cVar 1) (aCons (cIfE (tV (cVar 2)) (cUn opNeg (cVar 4)) (cVar 4)) aNil)))) sNil) (sSeq (sIf (tAndI (tNotI (tV (cVar 2))) (tBl (cOp opEq (cMeth f_Signs_here 3 (cVar 0) aNil) (cC (.str [121]))))) (sRet cBad) sNil) (sSeq (sIf (tAndI (tNotI (tV (cVar 2))) (tAndI (tBl (cOp opEq (cOp opSub (cFld 3 1 (cVar 0)) (cVar 3)) (cC (.int (4))))) (tV (cMeth f_Signs_took 3 (cVar 0) (aCons (cC (.str [45])) aNil))))) (sRet cBad) sNil) (sRet (cIfE (tV (cVar 2)) (cUn opNeg (cVar 4)) (cVar 4)))))))))))
def f_ValueSigns_number : List D → Hs → R D := mkFn 1 5 b_ValueSigns_number
def b_ValueSigns_value : IS := (sSeq (sIf (tBl (cOp opEq (cMeth f_Signs_here 3 (cVar 0) aNil) (cC (.str [91])))) (sRet cBad) sNil) (sSeq (sIf (tBl (cOp opEq (cMeth f_Signs_here 3 (cVar 0) aNil) (cC (.str [123])))) (sRet cBad) sNil) (sSeq (sIf (tV (cMeth f_Signs_is_one_of 3 (cVar 0) (aCons (cC (.str [65, 66, 67, 68, 69, 70, 71, 72, 73, 74, 75, 76, 77, 78, 79, 80, 81, 82, 83, 84, 85, 86, 87, 88, 89, 90])) aNil))) (sRet cBad) sNil) (sSeq (sIf (tV (cMeth f_Signs_is_one_of 3 (cVar 0) (aCons (cC (.str [97, 98, 99, 100, 101, 102, 103, 104, 105, 106, 107, 108, 109, 110, 111, 112, 113, 114, 115, 116, 117, 118, 119, 120, 121, 122])) aNil))) (sRet cBad) sNil) (sRet (cMeth f_ValueSigns_number 3 (cVar 0) aNil))))))
def f_ValueSigns_value : List D → Hs → R D := mkFn 1 1 b_ValueSigns_value
def b_Signs_end : IS := (sSeq (sIf (tBl (cOp opNe (cMeth f_Signs_here 3 (cVar 0) aNil) (cC (.str [])))) (sExpr cBad) sNil) (sRet (cVar 1)))
def f_Signs_end : List D → Hs → R D := mkFn 2 2 b_Signs_end
def b_read_value : IS := (sSeq (sExpr (cCall f_check (aCons (cIs .str (cVar 0)) aNil))) (sSeq (sSet 1 (cNew f_Signs___init__ 3 (aCons (cVar 0) aNil))) (sRet (cMeth f_Signs_end 3 (cVar 1) (aCons (cMeth f_ValueSigns_value 3 (cVar 1) aNil) aNil)))))
def f_read_value : List D → Hs → R D := mkFn 1 2 b_read_value
def b__law_are_ratios_due_11 : IS := (sRet (cCall (f__law_same 5) (aCons (cVar 6) (aCons (cIfE (tBl (cOp opEq (cCall f__law_common (aCons (cVar 1) (aCons (cVar 2) aNil))) (cC (.int (1))))) (cTup (aCons (cC (.str [114, 97, 116, 105, 111])) (aCons (cTup (aCons (cVar 1) (aCons (cB opAbs (aCons (cVar 2) aNil)) aNil))) aNil))) (cC (.int (0)))) aNil))))
def b__law_are_ratios_due_10 : IS := sSeq (sIf (tAndI (tBl (cOp opEq (cVar 1) (cC (.int (0))))) (tBl (cOp opEq (cOp opIx (cVar 5) (cC (.int (0)))) (cC (.str [45]))))) (sRet (cC (.bl true))) sNil) b__law_are_ratios_due_11
def b__law_are_ratios_due_9 : IS := sSeq (sTryAt ct_Malformed 7 6 (sSet 6 (cCall f_read_value (aCons (cVar 5) aNil)))) b__law_are_ratios_due_10
def b__law_are_ratios_due_8 : IS := sSeq (sIf (tBl (cOp opNe (cCall f_write_value (aCons (cTup (aCons (cC (.str [114, 97, 116, 105, 111])) (aCons (cVar 3) aNil))) aNil)) (cOp opAdd (cOp opAdd (cB opStr (aCons (cOp opIx (cVar 3) (cC (.int (0)))) aNil)) (cC (.str [47]))) (cB opStr (aCons (cOp opIx (cVar 3) (cC (.int (1)))) aNil))))) (sRet (cC (.bl false))) sNil) b__law_are_ratios_due_9
def b__law_are_ratios_due_7 : IS := sSeq (sSet 5 (cOp opAdd (cOp opAdd (cOp opAdd (cIfE (tBl (cOp opLt (cVar 1) (cC (.int (0))))) (cC (.str [45])) (cC (.str []))) (cB opStr (aCons (cB opAbs (aCons (cVar 1) aNil)) aNil))) (cC (.str [47]))) (cB opStr (aCons (cB opAbs (aCons (cVar 2) aNil)) aNil)))) b__law_are_ratios_due_8
def b__law_are_ratios_due_6 : IS := sSeq (sIf (tOrI (tBl (cOp opNe (cCall f_is_ratio (aCons (cTup (aCons (cVar 1) (aCons (cVar 2) aNil))) aNil)) (cVar 4))) (tBl (cOp opNe (cCall f_is_value (aCons (cTup (aCons (cC (.str [114, 97, 116, 105, 111])) (aCons (cTup (aCons (cVar 1) (aCons (cVar 2) aNil))) aNil))) aNil)) (cVar 4)))) (sRet (cC (.bl false))) sNil) b__law_are_ratios_due_7
def b__law_are_ratios_due_5 : IS := sSeq (sSet 4 (cOp opEq (cVar 3) (cTup (aCons (cVar 1) (aCons (cVar 2) aNil))))) b__law_are_ratios_due_6
def b__law_are_ratios_due_4 : IS := sSeq (sIf (tOrI (tNotI (tV (cCall (f__law_same 5) (aCons (cCall f_ratio_of (aCons (cVar 1) (aCons (cVar 2) aNil))) (aCons (cVar 3) aNil))))) (tNotI (tV (cCall (f__law_same 5) (aCons (cLst (aCons (cCall f_is_ratio (aCons (cVar 3) aNil)) (aCons (cCall f_is_value (aCons (cTup (aCons (cC (.str [114, 97, 116, 105, 111])) (aCons (cVar 3) aNil))) aNil)) aNil))) (aCons (cLst (aCons (cC (.bl true)) (aCons (cC (.bl true)) aNil))) aNil)))))) (sRet (cC (.bl false))) sNil) b__law_are_ratios_due_5
def b__law_are_ratios_due_3 : IS := sSeq (sSet 3 (cCall f__law_least (aCons (cVar 1) (aCons (cVar 2) aNil)))) b__law_are_ratios_due_4
def b__law_are_ratios_due_2 : IS := sSeq (sAsg (gTupI 2 (gConsI (gNm 1) (gConsI (gNm 2) gNilI))) (cCall f__law_pick (aCons (cVar 0) (aCons (cLst (aCons (cTup (aCons (cVar 1) (aCons (cVar 2) aNil))) (aCons (cTup (aCons (cVar 1) (aCons (cVar 2) aNil))) (aCons (cTup (aCons (cOp opSub (cC (.int (0))) (cVar 1)) (aCons (cVar 2) aNil))) (aCons (cTup (aCons (cOp opMul (cC (.int (6))) (cVar 1)) (aCons (cOp opMul (cC (.int (4))) (cVar 2)) aNil))) (aCons (cTup (aCons (cVar 2) (aCons (cVar 2) aNil))) (aCons (cTup (aCons (cC (.int (0))) (aCons (cVar 2) aNil))) (aCons (cTup (aCons (cC (.int (9))) (aCons (cC (.int (3))) aNil))) (aCons (cTup (aCons (cC (.int (10))) (aCons (cC (.int (4))) aNil))) aNil))))))))) aNil)))) b__law_are_ratios_due_3
def b__law_are_ratios_due_1 : IS := sSeq (sIf (tBl (cOp opEq (cVar 2) (cC (.int (0))))) (sSet 2 (cC (.int (7)))) sNil) b__law_are_ratios_due_2
def b__law_are_ratios_due : IS := sSeq (sPar 1 2 (cOp opMul (cCall f__law_number (aCons (cVar 0) aNil)) (cCall f__law_pick (aCons (cVar 0) (aCons (cLst (aCons (cC (.int (1))) (aCons (cC (.int (1))) (aCons (cUn opNeg (cC (.int (1)))) aNil)))) aNil)))) (cOp opMul (cCall f__law_number (aCons (cVar 0) aNil)) (cCall f__law_pick (aCons (cVar 0) (aCons (cLst (aCons (cC (.int (1))) (aCons (cC (.int (1))) (aCons (cUn opNeg (cC (.int (1)))) aNil)))) aNil))))) b__law_are_ratios_due_1
def f__law_are_ratios_due : List D → Hs → R D := mkFn 1 8 b__law_are_ratios_due
def b_rounded_by : IS := (sSeq (sAsg (gTupI 2 (gConsI (gNm 2) (gConsI (gNm 3) gNilI))) (cVar 0)) (sSeq (sIf (tBl (cOp opEq (cVar 1) (cC (.str [100, 111, 119, 110])))) (sRet (cOp opFdiv (cVar 2) (cVar 3))) sNil) (sSeq (sIf (tBl (cOp opEq (cVar 1) (cC (.str [117, 112])))) (sRet (cUn opNeg (cOp opFdiv (cUn opNeg (cVar 2)) (cVar 3)))) sNil) (sSeq (sSet 4 (cOp opFdiv (cOp opAdd (cOp opMul (cC (.int (2))) (cB opAbs (aCons (cVar 2) aNil))) (cVar 3)) (cOp opMul (cC (.int (2))) (cVar 3)))) (sRet (cIfE (tBl (cOp opGe (cVar 2) (cC (.int (0))))) (cVar 4) (cUn opNeg (cVar 4))))))))
def f_rounded_by : List D → Hs → R D := mkFn 2 5 b_rounded_by
def b_rounded : IS := (sSeq (sExpr (cCall f_check (aCons (cAndV (cCall f_is_ratio (aCons (cVar 0) aNil)) (cAndV (cIs .str (cVar 1)) (cOp opIn (cVar 1) (cC (.tup [(.str [100, 111, 119, 110]), (.str [117, 112]), (.str [110, 101, 97, 114])]))))) aNil))) (sRet (cCall f_rounded_by (aCons (cVar 0) (aCons (cVar 1) aNil)))))
def f_rounded : List D → Hs → R D := mkFn 2 2 b_rounded
def b__law_is_rounded_3 : IS := (sRet (cCall (f__law_same 5) (aCons (cLc false [5] (cSeq (cLst (aCons (cC (.str [100, 111, 119, 110])) (aCons (cC (.str [117, 112])) (aCons (cC (.str [110, 101, 97, 114])) aNil))))) (gNm 5) tAll (cCall f_rounded (aCons (cTup (aCons (cVar 1) (aCons (cVar 2) aNil))) (aCons (cVar 5) aNil)))) (aCons (cLst (aCons (cVar 3) (aCons (cIfE (tBl (cOp opEq (cOp opMul (cVar 3) (cVar 2)) (cVar 1))) (cVar 3) (cOp opAdd (cVar 3) (cC (.int (1))))) (aCons (cVar 4) aNil)))) aNil))))
def b__law_is_rounded_2 : IS := sSeq (sSet 4 (cIfE (tOrI (tBl (cOp opLt (cOp opMul (cC (.int (2))) (cOp opSub (cVar 1) (cOp opMul (cVar 3) (cVar 2)))) (cVar 2))) (tAndI (tBl (cOp opEq (cOp opMul (cC (.int (2))) (cOp opSub (cVar 1) (cOp opMul (cVar 3) (cVar 2)))) (cVar 2))) (tBl (cOp opLt (cVar 1) (cC (.int (0))))))) (cVar 3) (cOp opAdd (cVar 3) (cC (.int (1)))))) b__law_is_rounded_3
def b__law_is_rounded_1 : IS := sSeq (sSet 3 (cOp opFdiv (cVar 1) (cVar 2))) b__law_is_rounded_2
def b__law_is_rounded : IS := sSeq (sAsg (gTupI 2 (gConsI (gNm 1) (gConsI (gNm 2) gNilI))) (cCall f__law_least (aCons (cOp opMul (cCall f__law_number (aCons (cVar 0) aNil)) (cCall f__law_pick (aCons (cVar 0) (aCons (cLst (aCons (cC (.int (1))) (aCons (cUn opNeg (cC (.int (1)))) aNil))) aNil)))) (aCons (cOp opAdd (cC (.int (1))) (cCall f__law_number (aCons (cVar 0) aNil))) aNil)))) b__law_is_rounded_1
def f__law_is_rounded : List D → Hs → R D := mkFn 1 6 b__law_is_rounded
def b_compared_by : IS := (sSeq (sIf (tV (cIs .int (cVar 0))) (sPar 2 3 (cVar 0) (cVar 1)) (sIf (tBl (cOp opEq (cOp opIx (cVar 0) (cC (.int (0)))) (cC (.str [114, 97, 116, 105, 111])))) (sPar 2 3 (cOp opMul (cOp opIx (cOp opIx (cVar 0) (cC (.int (1)))) (cC (.int (0)))) (cOp opIx (cOp opIx (cVar 1) (cC (.int (1)))) (cC (.int (1))))) (cOp opMul (cOp opIx (cOp opIx (cVar 1) (cC (.int (1)))) (cC (.int (0)))) (cOp opIx (cOp opIx (cVar 0) (cC (.int (1)))) (cC (.int (1)))))) (sPar 2 3 (cOp opIx (cVar 0) (cC (.int (1)))) (cOp opIx (cVar 1) (cC (.int (1))))))) (sRet (cOp opSub (cB opInt (aCons (cOp opGt (cVar 2) (cVar 3)) aNil)) (cB opInt (aCons (cOp opLt (cVar 2) (cVar 3)) aNil)))))
def f_compared_by : List D → Hs → R D := mkFn 2 4 b_compared_by
def b_compare_values : IS := (sSeq (sExpr (cCall f_check (aCons (cAndV (cCall f_is_value (aCons (cVar 0) aNil)) (cCall f_is_value (aCons (cVar 1) aNil))) aNil))) (sSeq (sIf (tNotI (tAndI (tV (cCall f_is_integer (aCons (cVar 0) aNil))) (tV (cCall f_is_integer (aCons (cVar 1) aNil))))) (sExpr (cCall f_check (aCons (cAndV (cIs .tuple (cVar 0)) (cAndV (cIs .tuple (cVar 1)) (cAndV (cOp opEq (cOp opIx (cVar 0) (cC (.int (0)))) (cOp opIx (cVar 1) (cC (.int (0))))) (cOp opIn (cOp opIx (cVar 0) (cC (.int (0)))) (cC (.tup [(.str [114, 97, 116, 105, 111]), (.str [109, 111, 110, 101, 121]), (.str [100, 97, 121])])))))) aNil))) sNil) (sRet (cCall f_compared_by (aCons (cVar 0) (aCons (cVar 1) aNil))))))
def f_compare_values : List D → Hs → R D := mkFn 2 2 b_compare_values
def b__law_is_compared_7 : IS := (sRet (cCall (f__law_same 5) (aCons (cVar 9) (aCons (cOp opAdd (cOp opMul (cLst (aCons (cOp opSub (cB opInt (aCons (cOp opGt (cVar 1) (cVar 2)) aNil)) (cB opInt (aCons (cOp opLt (cVar 1) (cVar 2)) aNil))) aNil)) (cC (.int (2)))) (cLst (aCons (cOp opSub (cB opInt (aCons (cOp opGt (cOp opIx (cVar 8) (cC (.int (0)))) (cOp opIx (cVar 8) (cC (.int (1))))) aNil)) (cB opInt (aCons (cOp opLt (cOp opIx (cVar 8) (cC (.int (0)))) (cOp opIx (cVar 8) (cC (.int (1))))) aNil))) (aCons (cC (.int (0))) aNil)))) aNil))))
def b__law_is_compared_6 : IS := sSeq (sSet 9 (cLst (aCons (cCall f_compare_values (aCons (cVar 1) (aCons (cVar 2) aNil))) (aCons (cCall f_compare_values (aCons (cTup (aCons (cC (.str [109, 111, 110, 101, 121])) (aCons (cVar 1) aNil))) (aCons (cTup (aCons (cC (.str [109, 111, 110, 101, 121])) (aCons (cVar 2) aNil))) aNil))) (aCons (cCall f_compare_values (aCons (cTup (aCons (cC (.str [100, 97, 121])) (aCons (cOp opIx (cVar 8) (cC (.int (0)))) aNil))) (aCons (cTup (aCons (cC (.str [100, 97, 121])) (aCons (cOp opIx (cVar 8) (cC (.int (1)))) aNil))) aNil))) (aCons (cCall f_compare_values (aCons (cTup (aCons (cC (.str [114, 97, 116, 105, 111])) (aCons (cVar 3) aNil))) (aCons (cTup (aCons (cC (.str [114, 97, 116, 105, 111])) (aCons (cVar 3) aNil))) aNil))) aNil)))))) b__law_is_compared_7
def b__law_is_compared_5 : IS := sSeq (sSet 8 (cLst (aCons (cCall f__law_take (aCons (cVar 0) (aCons (cC (.int (200001))) aNil))) (aCons (cCall f__law_take (aCons (cVar 0) (aCons (cC (.int (200001))) aNil))) aNil)))) b__law_is_compared_6
def b__law_is_compared_4 : IS := sSeq (sIf (tNotI (tV (cCall (f__law_same 5) (aCons (cLst (aCons (cCall f_compare_values (aCons (cTup (aCons (cC (.str [114, 97, 116, 105, 111])) (aCons (cVar 3) aNil))) (aCons (cTup (aCons (cC (.str [114, 97, 116, 105, 111])) (aCons (cVar 4) aNil))) aNil))) (aCons (cCall f_compare_values (aCons (cTup (aCons (cC (.str [114, 97, 116, 105, 111])) (aCons (cVar 4) aNil))) (aCons (cTup (aCons (cC (.str [114, 97, 116, 105, 111])) (aCons (cVar 3) aNil))) aNil))) aNil))) (aCons (cLst (aCons (cVar 7) (aCons (cOp opSub (cC (.int (0))) (cVar 7)) aNil))) aNil))))) (sRet (cC (.bl false))) sNil) b__law_is_compared_5
def b__law_is_compared_3 : IS := sSeq (sSet 7 (cOp opSub (cB opInt (aCons (cOp opGt (cVar 5) (cVar 6)) aNil)) (cB opInt (aCons (cOp opLt (cVar 5) (cVar 6)) aNil)))) b__law_is_compared_4
def b__law_is_compared_2 : IS := sSeq (sPar 5 6 (cOp opMul (cOp opIx (cVar 3) (cC (.int (0)))) (cOp opIx (cVar 4) (cC (.int (1))))) (cOp opMul (cOp opIx (cVar 4) (cC (.int (0)))) (cOp opIx (cVar 3) (cC (.int (1)))))) b__law_is_compared_3
def b__law_is_compared_1 : IS := sSeq (sPar 3 4 (cCall f__law_least (aCons (cVar 1) (aCons (cOp opAdd (cC (.int (1))) (cCall f__law_number (aCons (cVar 0) aNil))) aNil))) (cCall f__law_least (aCons (cCall f__law_pick (aCons (cVar 0) (aCons (cLst (aCons (cVar 2) (aCons (cVar 1) aNil))) aNil))) (aCons (cOp opAdd (cC (.int (1))) (cCall f__law_number (aCons (cVar 0) aNil))) aNil)))) b__law_is_compared_2
def b__law_is_compared : IS := sSeq (sPar 1 2 (cOp opMul (cCall f__law_number (aCons (cVar 0) aNil)) (cCall f__law_pick (aCons (cVar 0) (aCons (cLst (aCons (cC (.int (1))) (aCons (cUn opNeg (cC (.int (1)))) aNil))) aNil)))) (cOp opMul (cCall f__law_number (aCons (cVar 0) aNil)) (cCall f__law_pick (aCons (cVar 0) (aCons (cLst (aCons (cC (.int (1))) (aCons (cUn opNeg (cC (.int (1)))) aNil))) aNil))))) b__law_is_compared_1
def f__law_is_compared : List D → Hs → R D := mkFn 1 10 b__law_is_compared
def b__law_word : IS := (sSeq (sAsg (gTupI 2 (gConsI (gNm 1) (gConsI (gNm 2) gNilI))) (cTup (aCons (cC (.str [97, 98, 121, 122, 48, 57, 95, 65, 90])) (aCons (cC (.str [96, 123, 64, 91, 47, 58, 94, 32, 45, 46, 33, 9, 10])) aNil)))) (sSeq (sSet 3 (cCall f__law_pick (aCons (cVar 0) (aCons (cLst (aCons (cC (.str [])) (aCons (cC (.str [97])) (aCons (cC (.str [122])) (aCons (cC (.str [65])) (aCons (cC (.str [90])) (aCons (cC (.str [109])) (aCons (cC (.str [66])) (aCons (cC (.str [95])) (aCons (cC (.str [57])) aNil)))))))))) aNil)))) (sSeq (sFor (cRng1 (aCons (cCall f__law_pick (aCons (cVar 0) (aCons (cLst (aCons (cC (.int (0))) (aCons (cC (.int (1))) (aCons (cC (.int (2))) (aCons (cC (.int (5))) (aCons (cC (.int (14))) (aCons (cC (.int (15))) (aCons (cC (.int (16))) aNil)))))))) aNil))) aNil)) (gNm 4) (sSet 3 (cOp opAdd (cVar 3) (cIfE (tBl (cOp opEq (cCall f__law_take (aCons (cVar 0) (aCons (cC (.int (12))) aNil))) (cC (.int (0))))) (cOp opIx (cVar 2) (cCall f__law_take (aCons (cVar 0) (aCons (cB opLen (aCons (cVar 2) aNil)) aNil)))) (cOp opIx (cVar 1) (cCall f__law_take (aCons (cVar 0) (aCons (cB opLen (aCons (cVar 1) aNil)) aNil)))))))) (sRet (cVar 3)))))
def f__law_word : List D → Hs → R D := mkFn 1 5 b__law_word
def b_is_name : IS := (sRet (cCall f_begins_and_goes_on (aCons (cVar 0) (aCons (cC (.str [97, 98, 99, 100, 101, 102, 103, 104, 105, 106, 107, 108, 109, 110, 111, 112, 113, 114, 115, 116, 117, 118, 119, 120, 121, 122])) (aCons (cOp opAdd (cOp opAdd (cC (.str [97, 98, 99, 100, 101, 102, 103, 104, 105, 106, 107, 108, 109, 110, 111, 112, 113, 114, 115, 116, 117, 118, 119, 120, 121, 122])) (cC (.str [48, 49, 50, 51, 52, 53, 54, 55, 56, 57]))) (cC (.str [95]))) aNil)))))
def f_is_name : List D → Hs → R D := mkFn 1 1 b_is_name
def b_is_path : IS := (sRet (cAndV (cIs .tuple (cVar 0)) (cAndV (cOp opIn (cB opLen (aCons (cVar 0) aNil)) (cTup (aCons (cC (.int (1))) (aCons (cC (.int (2))) aNil)))) (cB opAll (aCons (cLc false [1] (cSeq (cVar 0)) (gNm 1) tAll (cCall f_is_name (aCons (cVar 1) aNil))) aNil)))))
def f_is_path : List D → Hs → R D := mkFn 1 2 b_is_path
def b__law_are_words_due_6 : IS := (sRet (cCall (f__law_same 5) (aCons (cLst (aCons (cCall f_is_path (aCons (cTup (aCons (cOp opIx (cVar 4) (cC (.int (0)))) aNil)) aNil)) (aCons (cCall f_is_path (aCons (cTup (aCons (cOp opIx (cVar 4) (cC (.int (0)))) (aCons (cOp opIx (cVar 4) (cC (.int (1)))) aNil))) aNil)) (aCons (cCall f_is_path (aCons (cTup (aCons (cOp opIx (cVar 4) (cC (.int (2)))) (aCons (cC (.str [97])) aNil))) aNil)) (aCons (cCall f_is_path (aCons (cTup (aCons (cC (.str [97])) (aCons (cOp opIx (cVar 4) (cC (.int (3)))) aNil))) aNil)) aNil))))) (aCons (cLst (aCons (cOp opIx (cVar 9) (cC (.int (0)))) (aCons (cAndV (cOp opIx (cVar 9) (cC (.int (0)))) (cOp opIx (cVar 9) (cC (.int (1))))) (aCons (cOp opIx (cVar 9) (cC (.int (2)))) (aCons (cOp opIx (cVar 9) (cC (.int (3)))) aNil))))) aNil))))
def b__law_are_words_due_5 : IS := sSeq (sSet 9 (cLc false [7, 12] (cSeq (cVar 5)) (gTupI 2 (gConsI (gNm 7) (gConsI (gNm 12) gNilI))) tAll (cVar 7))) b__law_are_words_due_6
def b__law_are_words_due_4 : IS := sSeq (sIf (tNotI (tV (cCall (f__law_same 5) (aCons (cLc false [6] (cSeq (cVar 4)) (gNm 6) tAll (cTup (aCons (cCall f_is_name (aCons (cVar 6) aNil)) (aCons (cCall f_is_case_word (aCons (cVar 6) aNil)) aNil)))) (aCons (cVar 5) aNil))))) (sRet (cC (.bl false))) sNil) b__law_are_words_due_5
def b__law_are_words_due_3 : IS := sSeq (sFor (cSeq (cVar 4)) (gNm 6) (sSeq (sSet 7 (cChain opLe opLe (cC (.int (1))) (cB opLen (aCons (cVar 6) aNil)) (cC (.int (16))))) (sSeq (sSet 8 (cAndV (cVar 7) (cAndV (cOp opIn (cOp opIx (cVar 6) (cC (.int (0)))) (cVar 1)) (cOp opEq (cLc false [11] (cItStr (cVar 6)) (gNm 11) (tBl (cOp opNotIn (cVar 11) (cOp opAdd (cVar 1) (cVar 3)))) (cVar 11)) (cLst aNil))))) (sExpr (cMt isLs opAppend (cVar 5) (aCons (cTup (aCons (cVar 8) (aCons (cAndV (cVar 7) (cAndV (cOp opIn (cOp opIx (cVar 6) (cC (.int (0)))) (cVar 2)) (cOp opEq (cLc false [11] (cItStr (cVar 6)) (gNm 11) (tBl (cOp opNotIn (cVar 11) (cOp opAdd (cOp opAdd (cVar 1) (cVar 2)) (cVar 3)))) (cVar 11)) (cLst aNil)))) aNil))) aNil)))))) b__law_are_words_due_4
def b__law_are_words_due_2 : IS := sSeq (sSet 5 (cLstL aNil)) b__law_are_words_due_3
def b__law_are_words_due_1 : IS := sSeq (sSet 4 (cLc false [10] (cRng1 (aCons (cC (.int (4))) aNil)) (gNm 10) tAll (cCall f__law_word (aCons (cVar 0) aNil)))) b__law_are_words_due_2
def b__law_are_words_due : IS := sSeq (sAsg (gTupI 3 (gConsI (gNm 1) (gConsI (gNm 2) (gConsI (gNm 3) gNilI)))) (cTup (aCons (cC (.str [97, 98, 99, 100, 101, 102, 103, 104, 105, 106, 107, 108, 109, 110, 111, 112, 113, 114, 115, 116, 117, 118, 119, 120, 121, 122])) (aCons (cC (.str [65, 66, 67, 68, 69, 70, 71, 72, 73, 74, 75, 76, 77, 78, 79, 80, 81, 82, 83, 84, 85, 86, 87, 88, 89, 90])) (aCons (cC (.str [48, 49, 50, 51, 52, 53, 54, 55, 56, 57, 95])) aNil))))) b__law_are_words_due_1
def f__law_are_words_due : List D → Hs → R D := mkFn 1 13 b__law_are_words_due
def b__law_is_refused : IS := (sTry ct_NotRight (sSeq (sIf (tBl (cOp opEq (cVar 0) (cC (.int (2))))) (sExpr (cCall f_compare_values (aCons (cVar 1) (aCons (cVar 2) aNil)))) (sExpr (cCallV [("ratio_of", f_ratio_of), ("rounded", f_rounded)] (cOp opIx (cLst (aCons (cC (.glo "ratio_of")) (aCons (cC (.glo "rounded")) aNil))) (cVar 0)) (aCons (cVar 1) (aCons (cVar 2) aNil))))) (sRet (cC (.bl false)))) (sRet (cC (.bl true))))
def f__law_is_refused : List D → Hs → R D := mkFn 3 3 b__law_is_refused
def b_law_5 : IS := (sRet (cAndV (cOp opEq (cLc false [6] (cSeq (cVar 4)) (gNm 6) (tBl (cOp opNe (cCall f_compare_values (aCons (cTup (aCons (cC (.str [114, 97, 116, 105, 111])) (aCons (cOp opIx (cVar 6) (cC (.int (0)))) aNil))) (aCons (cTup (aCons (cC (.str [114, 97, 116, 105, 111])) (aCons (cOp opIx (cVar 6) (cC (.int (1)))) aNil))) aNil))) (cOp opIx (cVar 6) (cC (.int (2)))))) (cVar 6)) (cLst aNil)) (cOp opEq (cCall f_ratio_of (aCons (cC (.int (10))) (aCons (cUn opNeg (cC (.int (4)))) aNil))) (cTup (aCons (cUn opNeg (cC (.int (5)))) (aCons (cC (.int (2))) aNil))))))
def b_law_4 : IS := sSeq (sSet 4 (cLst (aCons (cTup (aCons (cTup (aCons (cC (.int (1))) (aCons (cC (.int (3))) aNil))) (aCons (cTup (aCons (cC (.int (1))) (aCons (cC (.int (2))) aNil))) (aCons (cUn opNeg (cC (.int (1)))) aNil)))) (aCons (cTup (aCons (cTup (aCons (cUn opNeg (cC (.int (1)))) (aCons (cC (.int (3))) aNil))) (aCons (cTup (aCons (cUn opNeg (cC (.int (1)))) (aCons (cC (.int (2))) aNil))) (aCons (cC (.int (1))) aNil)))) (aCons (cTup (aCons (cTup (aCons (cC (.int (2))) (aCons (cC (.int (3))) aNil))) (aCons (cTup (aCons (cC (.int (3))) (aCons (cC (.int (5))) aNil))) (aCons (cC (.int (1))) aNil)))) (aCons (cTup (aCons (cTup (aCons (cC (.int (7))) (aCons (cC (.int (5))) aNil))) (aCons (cTup (aCons (cC (.int (7))) (aCons (cC (.int (5))) aNil))) (aCons (cC (.int (0))) aNil)))) aNil)))))) b_law_5
def b_law_3 : IS := sSeq (sIf (tBl (cOp opNe (cLc false [5] (cSeq (cVar 3)) (gNm 5) (tNotI (tV (cCall f__law_is_refused (aCons (cOp opIx (cVar 5) (cC (.int (0)))) (aCons (cOp opIx (cVar 5) (cC (.int (1)))) (aCons (cOp opIx (cVar 5) (cC (.int (2)))) aNil)))))) (cVar 5)) (cLst aNil))) (sRet (cC (.bl false))) sNil) b_law_4
def b_law_2 : IS := sSeq (sSet 3 (cLst (aCons (cTup (aCons (cC (.int (0))) (aCons (cC (.int (1))) (aCons (cC (.int (0))) aNil)))) (aCons (cTup (aCons (cC (.int (0))) (aCons (cC (.bl true)) (aCons (cC (.int (2))) aNil)))) (aCons (cTup (aCons (cC (.int (0))) (aCons (cC (.int (1))) (aCons (cC (.bl false)) aNil)))) (aCons (cTup (aCons (cC (.int (0))) (aCons (cC .non) (aCons (cC (.int (1))) aNil)))) (aCons (cTup (aCons (cC (.int (1))) (aCons (cTup (aCons (cC (.int (9))) (aCons (cC (.int (3))) aNil))) (aCons (cC (.str [117, 112])) aNil)))) (aCons (cTup (aCons (cC (.int (1))) (aCons (cTup (aCons (cC (.int (0))) (aCons (cC (.int (2))) aNil))) (aCons (cC (.str [100, 111, 119, 110])) aNil)))) (aCons (cTup (aCons (cC (.int (1))) (aCons (cTup (aCons (cC (.int (1))) (aCons (cC (.int (2))) aNil))) (aCons (cC (.str [102, 97, 114])) aNil)))) (aCons (cTup (aCons (cC (.int (2))) (aCons (cTup (aCons (cC (.str [114, 97, 116, 105, 111])) (aCons (cTup (aCons (cC (.int (9))) (aCons (cC (.int (3))) aNil))) aNil))) (aCons (cTup (aCons (cC (.str [114, 97, 116, 105, 111])) (aCons (cTup (aCons (cC (.int (1))) (aCons (cC (.int (2))) aNil))) aNil))) aNil)))) (aCons (cTup (aCons (cC (.int (2))) (aCons (cC (.int (1))) (aCons (cTup (aCons (cC (.str [114, 97, 116, 105, 111])) (aCons (cTup (aCons (cC (.int (1))) (aCons (cC (.int (1))) aNil))) aNil))) aNil)))) aNil))))))))))) b_law_3
def b_law_1 : IS := sSeq (sFor (cRng1 (aCons (cC (.int (12))) aNil)) (gNm 2) (sIf (tOrI (tNotI (tV (cCall f__law_are_ratios_due (aCons (cVar 1) aNil)))) (tOrI (tNotI (tV (cCall f__law_is_rounded (aCons (cVar 1) aNil)))) (tOrI (tNotI (tV (cCall f__law_is_compared (aCons (cVar 1) aNil)))) (tNotI (tV (cCall f__law_are_words_due (aCons (cVar 1) aNil))))))) (sRet (cC (.bl false))) sNil)) b_law_2
def b_law : IS := sSeq (sSet 1 (cCall f__law_draws (aCons (cVar 0) aNil))) b_law_1
def f_law : List D → Hs → R D := mkFn 1 7 b_law
end K14
end
section
set_option maxRecDepth 100000
set_option maxHeartbeats 0
set_option autoImplicit false
/-! the walks of k14 (printed by gen.py) -/
namespace K14
open PySem PySem.Spec PyProof.Rows L2 Pi HeadK14
structure Txt (P : Program) (c : Cn) : Prop where
  F_3_0 : FldI c 3 "text" 0
  F_3_1 : FldI c 3 "at" 1
  ct_Malformed : CatI c "Malformed" ct_Malformed
  ct_NotRight : CatI c "NotRight" ct_NotRight
  g_CENTS : Glo c "CENTS" (.int (100))
  g_COMPARED : Glo c "COMPARED" (.tup [(.str [114, 97, 116, 105, 111]), (.str [109, 111, 110, 101, 121]), (.str [100, 97, 121])])
  g_FIGURES : Glo c "FIGURES" (.str [48, 49, 50, 51, 52, 53, 54, 55, 56, 57])
  g_LARGE : Glo c "LARGE" (.str [65, 66, 67, 68, 69, 70, 71, 72, 73, 74, 75, 76, 77, 78, 79, 80, 81, 82, 83, 84, 85, 86, 87, 88, 89, 90])
  g_LAST_DAY : Glo c "LAST_DAY" (.int (200000))
  g_LONG : Glo c "LONG" (.int (1000000000000000000))
  g_LONGEST_NAME : Glo c "LONGEST_NAME" (.int (16))
  g_LONG_FIGURES : Glo c "LONG_FIGURES" (.int (18))
  g_SMALL : Glo c "SMALL" (.str [97, 98, 99, 100, 101, 102, 103, 104, 105, 106, 107, 108, 109, 110, 111, 112, 113, 114, 115, 116, 117, 118, 119, 120, 121, 122])
  g_WAYS : Glo c "WAYS" (.tup [(.str [100, 111, 119, 110]), (.str [117, 112]), (.str [110, 101, 97, 114])])
  g_YEAR_FIGURES : Glo c "YEAR_FIGURES" (.int (4))
  m_ratio_of : c.mg "ratio_of" = some (.ref (He.ga c.K "ratio_of"))
  m_rounded : c.mg "rounded" = some (.ref (He.ga c.K "rounded"))
  n_abs : c.mg "abs" = none
  n_all : c.mg "all" = none
  n_bool : c.mg "bool" = none
  n_dict : c.mg "dict" = none
  n_int : c.mg "int" = none
  n_isinstance : c.mg "isinstance" = none
  n_len : c.mg "len" = none
  n_list : c.mg "list" = none
  n_range : c.mg "range" = none
  n_reversed : c.mg "reversed" = none
  n_str : c.mg "str" = none
  n_tuple : c.mg "tuple" = none
  x_Malformed : MalI P c 2
  x_NotRight : XcI c 0 "NotRight"
theorem Malformed_only : ∀ k, ct_Malformed k = some true → k = 2 := by
  intro k h
  match k, h with
  | 0, h => exact absurd h (by decide)
  | 1, h => exact absurd h (by decide)
  | 2, h => rfl
  | 3, h => exact absurd h (by decide)
  | _ + 4, h => exact absurd h (by simp [ct_Malformed])
section
variable {P : Program} {w : World} {base : Heap} {c : Cn}
theorem sc__law_draws : FnScope ["script", "draws", "cell", "number", "first", "k", "seed"] ["script"] (defScope s__law_draws) := ⟨rfl, rfl, rfl, by decide +kernel, rfl, by decide +kernel, by decide +kernel⟩
theorem R__law_draws (T : Txt P c) {fd : FuncData} {ad : Addr} (F : FunD c.K "_law_draws" "_law_draws" (defArgs s__law_draws) (defBody s__law_draws) (defScope s__law_draws) [] [] ad fd)  : Def P w base c 1 ad ["script"] f__law_draws :=
  mkDef (N := ["script", "draws", "cell", "number", "first", "k", "seed"]) (ps := ["script"]) F sc__law_draws (fun _ _ _ _ _ _ us hl => match us, hl with | [_], _ => rfl) (fun cdv A outer s H E cx pw => (ss_cons (s_set (i := 1) cx.nd (pi_lstL pa_0)) (ss_cons (s_for pw cx.calm (i_seq cx.K (pi_var 0)) (g_nm (i := 2) cx.nd) (ss_cons (s_set (i := 3) cx.nd (pi_op o_mod (pi_T cx.mg fb_int T.n_int (by decide +kernel) (pa_c (pi_B cx.mg (fb_abs) T.n_abs (by decide +kernel) (pa_c (pi_var 2) pa_0)) pa_0)) (pi_op o_pow pi_int pi_int))) (ss_cons (s_if (pt_cmp o_lt (pi_var 3) (pi_op o_pow pi_int pi_int)) (ss_cons (s_set (i := 4) cx.nd (pi_op o_mod (pi_T cx.mg fb_int T.n_int (by decide +kernel) (pa_c (pi_op (o_add cx.K) (pi_op o_mul (pi_var 3) pi_int) pi_int) pa_0)) pi_int)) (ss_cons (s_expr (pi_mt mi_append PySem.F.plainAttrs_list PySem.F.slot_list_append PySem.F.type_list_append (pi_var 1) (pa_c (pi_op o_mod (pi_T cx.mg fb_int T.n_int (by decide +kernel) (pa_c (pi_op (o_add cx.K) (pi_op o_mul (pi_var 4) pi_int) (pi_var 3)) pa_0)) pi_int) pa_0))) (ss_cons (s_expr (pi_mt mi_append PySem.F.plainAttrs_list PySem.F.slot_list_append PySem.F.type_list_append (pi_var 1) (pa_c (pi_op o_mod (pi_T cx.mg fb_int T.n_int (by decide +kernel) (pa_c (pi_op (o_add cx.K) (pi_var 4) (pi_op o_fdiv (pi_var 3) pi_int)) pa_0)) pi_int) pa_0))) (ss_one (s_set (i := 3) cx.nd pi_int))))) ss_nil) (ss_one (s_for pw cx.calm (i_rng1 cx.mg T.n_range (pa_c pi_int pa_0)) (g_nm (i := 5) cx.nd) (ss_one (s_if (pt_cmp o_gt (pi_var 3) pi_int) (ss_cons (s_expr (pi_mt mi_append PySem.F.plainAttrs_list PySem.F.slot_list_append PySem.F.type_list_append (pi_var 1) (pa_c (pi_op o_mod (pi_T cx.mg fb_int T.n_int (by decide +kernel) (pa_c (pi_var 3) pa_0)) pi_int) pa_0))) (ss_one (s_set (i := 3) cx.nd (pi_op o_fdiv (pi_var 3) pi_int)))) ss_nil))))))) (ss_cons (s_set (i := 6) cx.nd pi_int) (ss_cons (s_if (pt_cmp o_gt (pi_B cx.mg (fb_len cx.K) T.n_len (by decide +kernel) (pa_c (pi_var 0) pa_0)) pi_int) (ss_one (s_set (i := 6) cx.nd (pi_op (o_add cx.K) pi_int (pi_B cx.mg (fb_abs) T.n_abs (by decide +kernel) (pa_c (pi_ix cx.K (pi_var 0) pi_int) pa_0))))) ss_nil) (ss_cons (s_for pw cx.calm (i_rng1 cx.mg T.n_range (pa_c pi_int pa_0)) (g_nm (i := 5) cx.nd) (ss_cons (s_set (i := 6) cx.nd (pi_op o_mod (pi_T cx.mg fb_int T.n_int (by decide +kernel) (pa_c (pi_op (o_add cx.K) (pi_op o_mul (pi_var 6) pi_int) pi_int) pa_0)) pi_int)) (ss_one (s_expr (pi_mt mi_append PySem.F.plainAttrs_list PySem.F.slot_list_append PySem.F.type_list_append (pi_var 1) (pa_c (pi_op o_fdiv (pi_var 6) pi_int) pa_0)))))) (ss_one (s_ret (pi_lstRev true cx T.n_list T.n_reversed (pi_var 1))))))))))
theorem sc__law_take : FnScope ["draws", "bound"] ["draws", "bound"] (defScope s__law_take) := ⟨rfl, rfl, rfl, by decide +kernel, rfl, by decide +kernel, by decide +kernel⟩
theorem R__law_take (T : Txt P c) {fd : FuncData} {ad : Addr} (F : FunD c.K "_law_take" "_law_take" (defArgs s__law_take) (defBody s__law_take) (defScope s__law_take) [] [] ad fd)  : Def P w base c 1 ad ["draws", "bound"] f__law_take :=
  mkDef (N := ["draws", "bound"]) (ps := ["draws", "bound"]) F sc__law_take (fun _ _ _ _ _ _ us hl => match us, hl with | [_, _], _ => rfl) (fun cdv A outer s H E cx pw => (ss_cons (s_if (pt_cmp (o_eq cx.K cx.units64) (pi_B cx.mg (fb_len cx.K) T.n_len (by decide +kernel) (pa_c (pi_var 0) pa_0)) pi_int) (ss_one (s_ret pi_int)) ss_nil) (ss_one (s_ret (pi_op o_mod (pi_T cx.mg fb_int T.n_int (by decide +kernel) (pa_c (pi_mt0 mi_pop PySem.F.plainAttrs_list PySem.F.slot_list_pop PySem.F.type_list_pop (pi_var 0)) pa_0)) (pi_var 1))))))
theorem sc__law_pick : FnScope ["draws", "some"] ["draws", "some"] (defScope s__law_pick) := ⟨rfl, rfl, rfl, by decide +kernel, rfl, by decide +kernel, by decide +kernel⟩
theorem R__law_pick (T : Txt P c) {fd : FuncData} {ad : Addr} (F : FunD c.K "_law_pick" "_law_pick" (defArgs s__law_pick) (defBody s__law_pick) (defScope s__law_pick) [] [] ad fd) (D__law_take : DG P w base c 1 "_law_take" ["draws", "bound"] f__law_take) : Def P w base c 2 ad ["draws", "some"] f__law_pick :=
  mkDef (N := ["draws", "some"]) (ps := ["draws", "some"]) F sc__law_pick (fun _ _ _ _ _ _ us hl => match us, hl with | [_, _], _ => rfl) (fun cdv A outer s H E cx pw => (ss_one (s_ret (pi_ix cx.K (pi_var 1) (p_call cx D__law_take (pa_c (pi_var 0) (pa_c (pi_B cx.mg (fb_len cx.K) T.n_len (by decide +kernel) (pa_c (pi_var 1) pa_0)) pa_0)))))))
theorem sc__law_number : FnScope ["draws", "kind"] ["draws"] (defScope s__law_number) := ⟨rfl, rfl, rfl, by decide +kernel, rfl, by decide +kernel, by decide +kernel⟩
theorem R__law_number (T : Txt P c) {fd : FuncData} {ad : Addr} (F : FunD c.K "_law_number" "_law_number" (defArgs s__law_number) (defBody s__law_number) (defScope s__law_number) [] [] ad fd) (D__law_take : DG P w base c 2 "_law_take" ["draws", "bound"] f__law_take) (D__law_pick : DG P w base c 2 "_law_pick" ["draws", "some"] f__law_pick) : Def P w base c 3 ad ["draws"] f__law_number :=
  mkDef (N := ["draws", "kind"]) (ps := ["draws"]) F sc__law_number (fun _ _ _ _ _ _ us hl => match us, hl with | [_], _ => rfl) (fun cdv A outer s H E cx pw => (ss_cons (s_set (i := 1) cx.nd (p_call cx D__law_take (pa_c (pi_var 0) (pa_c pi_int pa_0)))) (ss_cons (s_if (pt_cmp (o_eq cx.K cx.units64) (pi_var 1) pi_int) (ss_one (s_ret (p_call cx D__law_take (pa_c (pi_var 0) (pa_c pi_int pa_0))))) ss_nil) (ss_cons (s_if (pt_cmp (o_eq cx.K cx.units64) (pi_var 1) pi_int) (ss_one (s_ret (pi_op o_mul (p_call cx D__law_take (pa_c (pi_var 0) (pa_c pi_int pa_0))) (p_call cx D__law_pick (pa_c (pi_var 0) (pa_c (pi_lst (pa_c pi_int (pa_c pi_int (pa_c pi_int (pa_c pi_int (pa_c pi_int pa_0)))))) pa_0)))))) ss_nil) (ss_cons (s_if (pt_cmp (o_eq cx.K cx.units64) (pi_var 1) pi_int) (ss_one (s_ret (pi_op (o_add cx.K) (pi_op o_pow pi_int pi_int) (p_call cx D__law_take (pa_c (pi_var 0) (pa_c pi_int pa_0)))))) ss_nil) (ss_one (s_ret (pi_if (pt_cmp (o_eq cx.K cx.units64) (pi_var 1) pi_int) (pi_op o_mul (pi_op o_mul (p_call cx D__law_take (pa_c (pi_var 0) (pa_c pi_int pa_0))) (p_call cx D__law_take (pa_c (pi_var 0) (pa_c pi_int pa_0)))) (pi_op o_pow pi_int pi_int)) (pi_op (o_add cx.K) pi_int (p_call cx D__law_take (pa_c (pi_var 0) (pa_c pi_int pa_0))))))))))))
theorem sc__law_common : FnScope ["n", "d", "a", "b", "turn"] ["n", "d"] (defScope s__law_common) := ⟨rfl, rfl, rfl, by decide +kernel, rfl, by decide +kernel, by decide +kernel⟩
theorem R__law_common (T : Txt P c) {fd : FuncData} {ad : Addr} (F : FunD c.K "_law_common" "_law_common" (defArgs s__law_common) (defBody s__law_common) (defScope s__law_common) [] [] ad fd)  : Def P w base c 1 ad ["n", "d"] f__law_common :=
  mkDef (N := ["n", "d", "a", "b", "turn"]) (ps := ["n", "d"]) F sc__law_common (fun _ _ _ _ _ _ us hl => match us, hl with | [_, _], _ => rfl) (fun cdv A outer s H E cx pw => (ss_cons (s_par (i := 2) (j := 3) cx.calm cx.nd (pi_B cx.mg (fb_abs) T.n_abs (by decide +kernel) (pa_c (pi_var 0) pa_0)) (pi_B cx.mg (fb_abs) T.n_abs (by decide +kernel) (pa_c (pi_var 1) pa_0))) (ss_cons (s_for pw cx.calm (i_rng1 cx.mg T.n_range (pa_c pi_int pa_0)) (g_nm (i := 4) cx.nd) (ss_one (s_if (pt_cmp o_gt (pi_var 3) pi_int) (ss_one (s_par (i := 2) (j := 3) cx.calm cx.nd (pi_var 3) (pi_op o_mod (pi_T cx.mg fb_int T.n_int (by decide +kernel) (pa_c (pi_var 2) pa_0)) (pi_var 3)))) ss_nil))) (ss_one (s_ret (pi_var 2))))))
theorem sc__law_least : FnScope ["n", "d", "part"] ["n", "d"] (defScope s__law_least) := ⟨rfl, rfl, rfl, by decide +kernel, rfl, by decide +kernel, by decide +kernel⟩
theorem R__law_least (T : Txt P c) {fd : FuncData} {ad : Addr} (F : FunD c.K "_law_least" "_law_least" (defArgs s__law_least) (defBody s__law_least) (defScope s__law_least) [] [] ad fd) (D__law_common : DG P w base c 1 "_law_common" ["n", "d"] f__law_common) : Def P w base c 2 ad ["n", "d"] f__law_least :=
  mkDef (N := ["n", "d", "part"]) (ps := ["n", "d"]) F sc__law_least (fun _ _ _ _ _ _ us hl => match us, hl with | [_, _], _ => rfl) (fun cdv A outer s H E cx pw => (ss_cons (s_set (i := 2) cx.nd (p_call cx D__law_common (pa_c (pi_var 0) (pa_c (pi_var 1) pa_0)))) (ss_one (s_ret (pi_if (pt_cmp o_gt (pi_var 1) pi_int) (pi_tup (pa_c (pi_op o_fdiv (pi_var 0) (pi_var 2)) (pa_c (pi_op o_fdiv (pi_var 1) (pi_var 2)) pa_0))) (pi_tup (pa_c (pi_op o_sub pi_int (pi_op o_fdiv (pi_var 0) (pi_var 2))) (pa_c (pi_op o_sub pi_int (pi_op o_fdiv (pi_var 1) (pi_var 2))) pa_0))))))))
theorem sc_is_integer : FnScope ["value"] ["value"] (defScope s_is_integer) := ⟨rfl, rfl, rfl, by decide +kernel, rfl, by decide +kernel, by decide +kernel⟩
theorem R_is_integer (T : Txt P c) {fd : FuncData} {ad : Addr} (F : FunD c.K "is_integer" "is_integer" (defArgs s_is_integer) (defBody s_is_integer) (defScope s_is_integer) [] [] ad fd)  : Def P w base c 1 ad ["value"] f_is_integer :=
  mkDef (N := ["value"]) (ps := ["value"]) F sc_is_integer (fun _ _ _ _ _ _ us hl => match us, hl with | [_], _ => rfl) (fun cdv A outer s H E cx pw => (ss_one (s_ret (pi_and cx.K (pi_isA .int cx.K cx.mg (pi_var 0) T.n_isinstance T.n_int) (pi_one (pi_not cx.K (pi_isA .bool cx.K cx.mg (pi_var 0) T.n_isinstance T.n_bool)))))))
theorem sc_check : FnScope ["is_right"] ["is_right"] (defScope s_check) := ⟨rfl, rfl, rfl, by decide +kernel, rfl, by decide +kernel, by decide +kernel⟩
theorem R_check (T : Txt P c) {fd : FuncData} {ad : Addr} (F : FunD c.K "check" "check" (defArgs s_check) (defBody s_check) (defScope s_check) [] [] ad fd)  : Def P w base c 1 ad ["is_right"] f_check :=
  mkDef (N := ["is_right"]) (ps := ["is_right"]) F sc_check (fun _ _ _ _ _ _ us hl => match us, hl with | [_], _ => rfl) (fun cdv A outer s H E cx pw => (ss_one (s_if (pt_n (pt_v cx.K (pi_var 0))) (ss_one (s_raise cx T.x_NotRight)) ss_nil)))
theorem sc_greatest_part : FnScope ["one", "other"] ["one", "other"] (defScope s_greatest_part) := ⟨rfl, rfl, rfl, by decide +kernel, rfl, by decide +kernel, by decide +kernel⟩
theorem R_greatest_part (T : Txt P c) {fd : FuncData} {ad : Addr} (F : FunD c.K "greatest_part" "greatest_part" (defArgs s_greatest_part) (defBody s_greatest_part) (defScope s_greatest_part) [] [] ad fd)  : Def P w base c 1 ad ["one", "other"] f_greatest_part :=
  mkDef (N := ["one", "other"]) (ps := ["one", "other"]) F sc_greatest_part (fun _ _ _ _ _ _ us hl => match us, hl with | [_, _], _ => rfl) (fun cdv A outer s H E cx pw => (ss_cons (s_while fuelW pw (pt_cmp o_gt (pi_var 1) pi_int) (ss_one (s_par (i := 0) (j := 1) cx.calm cx.nd (pi_var 1) (pi_op o_mod (pi_var 0) (pi_var 1))))) (ss_one (s_ret (pi_var 0)))))
theorem sc_ratio_by : FnScope ["n", "d", "part"] ["n", "d"] (defScope s_ratio_by) := ⟨rfl, rfl, rfl, by decide +kernel, rfl, by decide +kernel, by decide +kernel⟩
theorem R_ratio_by (T : Txt P c) {fd : FuncData} {ad : Addr} (F : FunD c.K "ratio_by" "ratio_by" (defArgs s_ratio_by) (defBody s_ratio_by) (defScope s_ratio_by) [] [] ad fd) (D_greatest_part : DG P w base c 1 "greatest_part" ["one", "other"] f_greatest_part) : Def P w base c 2 ad ["n", "d"] f_ratio_by :=
  mkDef (N := ["n", "d", "part"]) (ps := ["n", "d"]) F sc_ratio_by (fun _ _ _ _ _ _ us hl => match us, hl with | [_, _], _ => rfl) (fun cdv A outer s H E cx pw => (ss_cons (s_set (i := 2) cx.nd (p_call cx D_greatest_part (pa_c (pi_B cx.mg (fb_abs) T.n_abs (by decide +kernel) (pa_c (pi_var 0) pa_0)) (pa_c (pi_B cx.mg (fb_abs) T.n_abs (by decide +kernel) (pa_c (pi_var 1) pa_0)) pa_0)))) (ss_one (s_ret (pi_if (pt_cmp o_gt (pi_var 1) pi_int) (pi_tup (pa_c (pi_op o_fdiv (pi_var 0) (pi_var 2)) (pa_c (pi_op o_fdiv (pi_var 1) (pi_var 2)) pa_0))) (pi_tup (pa_c (pi_op o_fdiv (pi_un o_neg (pi_var 0)) (pi_var 2)) (pa_c (pi_op o_fdiv (pi_un o_neg (pi_var 1)) (pi_var 2)) pa_0))))))))
theorem sc_ratio_of : FnScope ["n", "d"] ["n", "d"] (defScope s_ratio_of) := ⟨rfl, rfl, rfl, by decide +kernel, rfl, by decide +kernel, by decide +kernel⟩
theorem R_ratio_of (T : Txt P c) {fd : FuncData} {ad : Addr} (F : FunD c.K "ratio_of" "ratio_of" (defArgs s_ratio_of) (defBody s_ratio_of) (defScope s_ratio_of) [] [] ad fd) (D_is_integer : DG P w base c 2 "is_integer" ["value"] f_is_integer) (D_check : DG P w base c 2 "check" ["is_right"] f_check) (D_ratio_by : DG P w base c 2 "ratio_by" ["n", "d"] f_ratio_by) : Def P w base c 3 ad ["n", "d"] f_ratio_of :=
  mkDef (N := ["n", "d"]) (ps := ["n", "d"]) F sc_ratio_of (fun _ _ _ _ _ _ us hl => match us, hl with | [_, _], _ => rfl) (fun cdv A outer s H E cx pw => (ss_cons (s_expr (p_call cx D_check (pa_c (pi_and cx.K (p_call cx D_is_integer (pa_c (pi_var 0) pa_0)) (pi_and cx.K (p_call cx D_is_integer (pa_c (pi_var 1) pa_0)) (pi_one (pi_cmp (o_ne cx.K cx.units64) (pi_var 1) pi_int)))) pa_0))) (ss_one (s_ret (p_call cx D_ratio_by (pa_c (pi_var 0) (pa_c (pi_var 1) pa_0)))))))
theorem sc__law_same : FnScope ["told", "due", "key", "k"] ["told", "due"] (defScope s__law_same) := ⟨rfl, rfl, rfl, by decide +kernel, rfl, by decide +kernel, by decide +kernel⟩
theorem R__law_same (T : Txt P c) {fd : FuncData} {ad : Addr} (F : FunD c.K "_law_same" "_law_same" (defArgs s__law_same) (defBody s__law_same) (defScope s__law_same) [] [] ad fd) (hm : c.mg "_law_same" = some (.ref ad))  : ∀ n, Def P w base c (n + 0) ad ["told", "due"] (f__law_same n)
  | 0 => (defBad F (fun _ _ _ _ _ _ us hl => match us, hl with | [_, _], _ => rfl)).up (Nat.zero_le _)
  | n + 1 => by
    have D__law_same : DG P w base c (n + 0) "_law_same" ["told", "due"] (f__law_same n) := ⟨ad, R__law_same T F hm  n, hm⟩
    
    rw [Nat.add_right_comm]
    exact mkDef (N := ["told", "due", "key", "k"]) (ps := ["told", "due"]) F sc__law_same (fun _ _ _ _ _ _ us hl => match us, hl with | [_, _], _ => rfl) (fun cdv A outer s H E cx pw => (ss_cons (s_if (pt_v cx.K (pi_isA .dict cx.K cx.mg (pi_var 1) T.n_isinstance T.n_dict)) (ss_cons (s_if ((pw_on (pt_n (pt_v cx.K (pi_isA .dict cx.K cx.mg (pi_var 0) T.n_isinstance T.n_dict))) (pw_o1 (pt_cmp (o_ne cx.K cx.units64) pi_bad pi_bad))).pt) (ss_one (s_ret pi_bl)) ss_nil) (ss_one (s_ret (pi_B cx.mg (fb_all cx.calm) T.n_all (by decide +kernel) (pa_c (pi_lc (own := [("key", 2)]) (ws := [2]) false ["told", "due", "key", "k"] (defScope s__law_same) cx (i_seq cx.K (pi_var 1)) (by decide +kernel) (by decide) (fun _ cx ⟨_, _, _, _, _, e⟩ => by subst e; exact ⟨(g_nm (i := 2) cx.nd), pts_0, (p_call cx D__law_same (pa_c (pi_ix cx.K (pi_var 0) (pi_var 2)) (pa_c (pi_ix cx.K (pi_var 1) (pi_var 2)) pa_0)))⟩)) pa_0))))) ss_nil) (ss_cons (s_if ((pw_on (pt_v cx.K (pi_isA .tuple cx.K cx.mg (pi_var 1) T.n_isinstance T.n_tuple)) (pw_o1 (pt_v cx.K (pi_isA .list cx.K cx.mg (pi_var 1) T.n_isinstance T.n_list)))).pt) (ss_cons (s_if ((pw_on (pt_cmp (o_ne cx.K cx.units64) (pi_isA .tuple cx.K cx.mg (pi_var 1) T.n_isinstance T.n_tuple) (pi_isA .tuple cx.K cx.mg (pi_var 0) T.n_isinstance T.n_tuple)) (pw_o1 (pt_cmp (o_ne cx.K cx.units64) (pi_isA .list cx.K cx.mg (pi_var 1) T.n_isinstance T.n_list) (pi_isA .list cx.K cx.mg (pi_var 0) T.n_isinstance T.n_list)))).pt) (ss_one (s_ret pi_bl)) ss_nil) (ss_one (s_ret (pi_and cx.K (pi_cmp (o_eq cx.K cx.units64) (pi_B cx.mg (fb_len cx.K) T.n_len (by decide +kernel) (pa_c (pi_var 0) pa_0)) (pi_B cx.mg (fb_len cx.K) T.n_len (by decide +kernel) (pa_c (pi_var 1) pa_0))) (pi_one (pi_B cx.mg (fb_all cx.calm) T.n_all (by decide +kernel) (pa_c (pi_lc (own := [("k", 3)]) (ws := [3]) false ["told", "due", "key", "k"] (defScope s__law_same) cx (i_rng1 cx.mg T.n_range (pa_c (pi_B cx.mg (fb_len cx.K) T.n_len (by decide +kernel) (pa_c (pi_var 1) pa_0)) pa_0)) (by decide +kernel) (by decide) (fun _ cx ⟨_, _, _, _, _, e⟩ => by subst e; exact ⟨(g_nm (i := 3) cx.nd), pts_0, (p_call cx D__law_same (pa_c (pi_ix cx.K (pi_var 0) (pi_var 3)) (pa_c (pi_ix cx.K (pi_var 1) (pi_var 3)) pa_0)))⟩)) pa_0))))))) ss_nil) (ss_cons (s_if (pt_cmp o_isN (pi_var 1) pi_non) (ss_one (s_ret (pi_cmp o_isN (pi_var 0) pi_non))) ss_nil) (ss_cons (s_if (pt_cmp (o_ne cx.K cx.units64) (pi_isA .bool cx.K cx.mg (pi_var 1) T.n_isinstance T.n_bool) (pi_isA .bool cx.K cx.mg (pi_var 0) T.n_isinstance T.n_bool)) (ss_one (s_ret pi_bl)) ss_nil) (ss_cons (s_if ((pw_on (pt_cmp (o_ne cx.K cx.units64) (pi_isA .int cx.K cx.mg (pi_var 1) T.n_isinstance T.n_int) (pi_isA .int cx.K cx.mg (pi_var 0) T.n_isinstance T.n_int)) (pw_o1 (pt_cmp (o_ne cx.K cx.units64) (pi_isA .str cx.K cx.mg (pi_var 1) T.n_isinstance T.n_str) (pi_isA .str cx.K cx.mg (pi_var 0) T.n_isinstance T.n_str)))).pt) (ss_one (s_ret pi_bl)) ss_nil) (ss_one (s_ret (pi_cmp (o_eq cx.K cx.units64) (pi_var 0) (pi_var 1))))))))))
theorem sc_is_ratio : FnScope ["value", "one"] ["value"] (defScope s_is_ratio) := ⟨rfl, rfl, rfl, by decide +kernel, rfl, by decide +kernel, by decide +kernel⟩
theorem R_is_ratio (T : Txt P c) {fd : FuncData} {ad : Addr} (F : FunD c.K "is_ratio" "is_ratio" (defArgs s_is_ratio) (defBody s_is_ratio) (defScope s_is_ratio) [] [] ad fd) (D_is_integer : DG P w base c 1 "is_integer" ["value"] f_is_integer) (D_greatest_part : DG P w base c 1 "greatest_part" ["one", "other"] f_greatest_part) : Def P w base c 2 ad ["value"] f_is_ratio :=
  mkDef (N := ["value", "one"]) (ps := ["value"]) F sc_is_ratio (fun _ _ _ _ _ _ us hl => match us, hl with | [_], _ => rfl) (fun cdv A outer s H E cx pw => (ss_cons (s_if ((pw_on (pt_n (pt_v cx.K (pi_isA .tuple cx.K cx.mg (pi_var 0) T.n_isinstance T.n_tuple))) (pw_on (pt_cmp (o_ne cx.K cx.units64) (pi_B cx.mg (fb_len cx.K) T.n_len (by decide +kernel) (pa_c (pi_var 0) pa_0)) pi_int) (pw_o1 (pt_n (pt_v cx.K (pi_B cx.mg (fb_all cx.calm) T.n_all (by decide +kernel) (pa_c (pi_lc (own := [("one", 1)]) (ws := [1]) false ["value", "one"] (defScope s_is_ratio) cx (i_seq cx.K (pi_var 0)) (by decide +kernel) (by decide) (fun _ cx ⟨_, _, _, _, _, e⟩ => by subst e; exact ⟨(g_nm (i := 1) cx.nd), pts_0, (p_call cx D_is_integer (pa_c (pi_var 1) pa_0))⟩)) pa_0))))))).pt) (ss_one (s_ret pi_bl)) ss_nil) (ss_one (s_ret (pi_and cx.K (pi_cmp o_gt (pi_ix cx.K (pi_var 0) pi_int) pi_int) (pi_one (pi_cmp (o_eq cx.K cx.units64) (p_call cx D_greatest_part (pa_c (pi_B cx.mg (fb_abs) T.n_abs (by decide +kernel) (pa_c (pi_ix cx.K (pi_var 0) pi_int) pa_0)) (pa_c (pi_ix cx.K (pi_var 0) pi_int) pa_0))) pi_int)))))))
theorem sc_begins_and_goes_on : FnScope ["value", "first", "others", "sign"] ["value", "first", "others"] (defScope s_begins_and_goes_on) := ⟨rfl, rfl, rfl, by decide +kernel, rfl, by decide +kernel, by decide +kernel⟩
theorem R_begins_and_goes_on (T : Txt P c) {fd : FuncData} {ad : Addr} (F : FunD c.K "begins_and_goes_on" "begins_and_goes_on" (defArgs s_begins_and_goes_on) (defBody s_begins_and_goes_on) (defScope s_begins_and_goes_on) [] [] ad fd)  : Def P w base c 1 ad ["value", "first", "others"] f_begins_and_goes_on :=
  mkDef (N := ["value", "first", "others", "sign"]) (ps := ["value", "first", "others"]) F sc_begins_and_goes_on (fun _ _ _ _ _ _ us hl => match us, hl with | [_, _, _], _ => rfl) (fun cdv A outer s H E cx pw => (ss_cons (s_if ((pw_on (pt_n (pt_v cx.K (pi_isA .str cx.K cx.mg (pi_var 0) T.n_isinstance T.n_str))) (pw_on (pt_n (pt_ch o_le o_le pi_int (pi_B cx.mg (fb_len cx.K) T.n_len (by decide +kernel) (pa_c (pi_var 0) pa_0)) (pi_glob cx.mg T.g_LONGEST_NAME))) (pw_o1 (pt_cmp (o_notIn cx.K (units65 cx)) (pi_ix cx.K (pi_var 0) pi_int) (pi_var 1))))).pt) (ss_one (s_ret pi_bl)) ss_nil) (ss_one (s_ret (pi_B cx.mg (fb_all cx.calm) T.n_all (by decide +kernel) (pa_c (pi_lc (own := [("sign", 3)]) (ws := [3]) false ["value", "first", "others", "sign"] (defScope s_begins_and_goes_on) cx (i_str (pi_var 0)) (by decide +kernel) (by decide) (fun _ cx ⟨_, _, _, _, _, e⟩ => by subst e; exact ⟨(g_nm (i := 3) cx.nd), pts_0, (pi_cmp (o_in cx.K (units65 cx)) (pi_var 3) (pi_var 2))⟩)) pa_0))))))
theorem sc_is_case_word : FnScope ["value"] ["value"] (defScope s_is_case_word) := ⟨rfl, rfl, rfl, by decide +kernel, rfl, by decide +kernel, by decide +kernel⟩
theorem R_is_case_word (T : Txt P c) {fd : FuncData} {ad : Addr} (F : FunD c.K "is_case_word" "is_case_word" (defArgs s_is_case_word) (defBody s_is_case_word) (defScope s_is_case_word) [] [] ad fd) (D_begins_and_goes_on : DG P w base c 1 "begins_and_goes_on" ["value", "first", "others"] f_begins_and_goes_on) : Def P w base c 2 ad ["value"] f_is_case_word :=
  mkDef (N := ["value"]) (ps := ["value"]) F sc_is_case_word (fun _ _ _ _ _ _ us hl => match us, hl with | [_], _ => rfl) (fun cdv A outer s H E cx pw => (ss_one (s_ret (p_call cx D_begins_and_goes_on (pa_c (pi_var 0) (pa_c (pi_glob cx.mg T.g_LARGE) (pa_c (pi_op (o_add cx.K) (pi_op (o_add cx.K) (pi_op (o_add cx.K) (pi_glob cx.mg T.g_SMALL) (pi_glob cx.mg T.g_LARGE)) (pi_glob cx.mg T.g_FIGURES)) pi_str) pa_0)))))))
theorem sc_is_day_number : FnScope ["value"] ["value"] (defScope s_is_day_number) := ⟨rfl, rfl, rfl, by decide +kernel, rfl, by decide +kernel, by decide +kernel⟩
theorem R_is_day_number (T : Txt P c) {fd : FuncData} {ad : Addr} (F : FunD c.K "is_day_number" "is_day_number" (defArgs s_is_day_number) (defBody s_is_day_number) (defScope s_is_day_number) [] [] ad fd) (D_is_integer : DG P w base c 1 "is_integer" ["value"] f_is_integer) : Def P w base c 2 ad ["value"] f_is_day_number :=
  mkDef (N := ["value"]) (ps := ["value"]) F sc_is_day_number (fun _ _ _ _ _ _ us hl => match us, hl with | [_], _ => rfl) (fun cdv A outer s H E cx pw => (ss_one (s_ret (pi_and cx.K (p_call cx D_is_integer (pa_c (pi_var 0) pa_0)) (pi_one (pi_chain o_le o_le pi_int (pi_var 0) (pi_glob cx.mg T.g_LAST_DAY)))))))
theorem sc_is_value : FnScope ["value", "one"] ["value"] (defScope s_is_value) := ⟨rfl, rfl, rfl, by decide +kernel, rfl, by decide +kernel, by decide +kernel⟩
theorem R_is_value (T : Txt P c) {fd : FuncData} {ad : Addr} (F : FunD c.K "is_value" "is_value" (defArgs s_is_value) (defBody s_is_value) (defScope s_is_value) [] [] ad fd) (D_is_case_word : DG P w base c 2 "is_case_word" ["value"] f_is_case_word) (D_is_ratio : DG P w base c 2 "is_ratio" ["value"] f_is_ratio) (D_is_integer : DG P w base c 2 "is_integer" ["value"] f_is_integer) (D_is_day_number : DG P w base c 2 "is_day_number" ["value"] f_is_day_number) : Def P w base c 3 ad ["value"] f_is_value :=
  mkDef (N := ["value", "one"]) (ps := ["value"]) F sc_is_value (fun _ _ _ _ _ _ us hl => match us, hl with | [_], _ => rfl) (fun cdv A outer s H E cx pw => (ss_cons (s_if (pt_v cx.K (pi_isA .int cx.K cx.mg (pi_var 0) T.n_isinstance T.n_int)) (ss_one (s_ret pi_bl)) ss_nil) (ss_cons (s_if ((pw_on (pt_n (pt_v cx.K (pi_isA .tuple cx.K cx.mg (pi_var 0) T.n_isinstance T.n_tuple))) (pw_on (pt_cmp o_lt (pi_B cx.mg (fb_len cx.K) T.n_len (by decide +kernel) (pa_c (pi_var 0) pa_0)) pi_int) (pw_o1 (pt_n (pt_v cx.K (pi_isA .str cx.K cx.mg (pi_ix cx.K (pi_var 0) pi_int) T.n_isinstance T.n_str)))))).pt) (ss_one (s_ret pi_bl)) ss_nil) (ss_cons (s_if (pt_cmp (o_eq cx.K cx.units64) (pi_ix cx.K (pi_var 0) pi_int) pi_str) (ss_one (s_ret (pi_and cx.K (pi_cmp (o_eq cx.K cx.units64) (pi_B cx.mg (fb_len cx.K) T.n_len (by decide +kernel) (pa_c (pi_var 0) pa_0)) pi_int) (pi_and cx.K (p_call cx D_is_case_word (pa_c (pi_ix cx.K (pi_var 0) pi_int) pa_0)) (pi_one (pi_or cx.K (pi_cmp o_isN (pi_ix cx.K (pi_var 0) pi_int) pi_non) (pi_one pi_bad))))))) ss_nil) (ss_cons (s_if (pt_cmp (o_ne cx.K cx.units64) (pi_B cx.mg (fb_len cx.K) T.n_len (by decide +kernel) (pa_c (pi_var 0) pa_0)) pi_int) (ss_one (s_ret pi_bl)) ss_nil) (ss_cons (s_if (pt_cmp (o_eq cx.K cx.units64) (pi_ix cx.K (pi_var 0) pi_int) pi_str) (ss_one (s_ret (p_call cx D_is_ratio (pa_c (pi_ix cx.K (pi_var 0) pi_int) pa_0)))) ss_nil) (ss_cons (s_if (pt_cmp (o_in cx.K (units65 cx)) (pi_ix cx.K (pi_var 0) pi_int) (pi_tup (pa_c pi_str (pa_c pi_str pa_0)))) (ss_one (s_ret (pi_if (pt_cmp (o_eq cx.K cx.units64) (pi_ix cx.K (pi_var 0) pi_int) pi_str) (p_call cx D_is_integer (pa_c (pi_ix cx.K (pi_var 0) pi_int) pa_0)) (p_call cx D_is_day_number (pa_c (pi_ix cx.K (pi_var 0) pi_int) pa_0))))) ss_nil) (ss_cons (s_if (pt_cmp (o_eq cx.K cx.units64) (pi_ix cx.K (pi_var 0) pi_int) pi_str) (ss_one (s_ret pi_bad)) ss_nil) (ss_cons (s_if (pt_cmp (o_eq cx.K cx.units64) (pi_ix cx.K (pi_var 0) pi_int) pi_str) (ss_one (s_ret (pi_and cx.K pi_bad (pi_one (pi_B cx.mg (fb_all cx.calm) T.n_all (by decide +kernel) (pa_c pi_bad pa_0)))))) ss_nil) (ss_one (s_ret (pi_and cx.K (pi_cmp (o_eq cx.K cx.units64) (pi_ix cx.K (pi_var 0) pi_int) pi_str) (pi_and cx.K (pi_isA .tuple cx.K cx.mg (pi_ix cx.K (pi_var 0) pi_int) T.n_isinstance T.n_tuple) (pi_one (pi_B cx.mg (fb_all cx.calm) T.n_all (by decide +kernel) (pa_c (pi_lc (own := [("one", 1)]) (ws := [1]) false ["value", "one"] (defScope s_is_value) cx (i_seq cx.K (pi_ix cx.K (pi_var 0) pi_int)) (by decide +kernel) (by decide) (fun _ cx ⟨_, _, _, _, _, e⟩ => by subst e; exact ⟨(g_nm (i := 1) cx.nd), pts_0, pi_bad⟩)) pa_0))))))))))))))))
theorem sc_padded : FnScope ["number", "most", "found"] ["number", "most"] (defScope s_padded) := ⟨rfl, rfl, rfl, by decide +kernel, rfl, by decide +kernel, by decide +kernel⟩
theorem R_padded (T : Txt P c) {fd : FuncData} {ad : Addr} (F : FunD c.K "padded" "padded" (defArgs s_padded) (defBody s_padded) (defScope s_padded) [] [] ad fd)  : Def P w base c 1 ad ["number", "most"] f_padded :=
  mkDef (N := ["number", "most", "found"]) (ps := ["number", "most"]) F sc_padded (fun _ _ _ _ _ _ us hl => match us, hl with | [_, _], _ => rfl) (fun cdv A outer s H E cx pw => (ss_cons (s_set (i := 2) cx.nd (pi_T cx.mg fb_str T.n_str (by decide +kernel) (pa_c (pi_var 0) pa_0))) (ss_one (s_ret (pi_op (o_add cx.K) (pi_op o_mul pi_str (pi_op o_sub (pi_var 1) (pi_B cx.mg (fb_len cx.K) T.n_len (by decide +kernel) (pa_c (pi_var 2) pa_0)))) (pi_var 2))))))
theorem sc_figures_of : FnScope ["number", "found", "left"] ["number"] (defScope s_figures_of) := ⟨rfl, rfl, rfl, by decide +kernel, rfl, by decide +kernel, by decide +kernel⟩
theorem R_figures_of (T : Txt P c) {fd : FuncData} {ad : Addr} (F : FunD c.K "figures_of" "figures_of" (defArgs s_figures_of) (defBody s_figures_of) (defScope s_figures_of) [] [] ad fd) (D_padded : DG P w base c 1 "padded" ["number", "most"] f_padded) : Def P w base c 2 ad ["number"] f_figures_of :=
  mkDef (N := ["number", "found", "left"]) (ps := ["number"]) F sc_figures_of (fun _ _ _ _ _ _ us hl => match us, hl with | [_], _ => rfl) (fun cdv A outer s H E cx pw => (ss_cons (s_par (i := 1) (j := 2) cx.calm cx.nd (pi_lstL pa_0) (pi_B cx.mg (fb_abs) T.n_abs (by decide +kernel) (pa_c (pi_var 0) pa_0))) (ss_cons (s_while fuelW pw (pt_cmp o_ge (pi_var 2) (pi_glob cx.mg T.g_LONG)) (ss_cons (s_expr (pi_mt mi_append PySem.F.plainAttrs_list PySem.F.slot_list_append PySem.F.type_list_append (pi_var 1) (pa_c (p_call cx D_padded (pa_c (pi_op o_mod (pi_var 2) (pi_glob cx.mg T.g_LONG)) (pa_c (pi_glob cx.mg T.g_LONG_FIGURES) pa_0))) pa_0))) (ss_one (s_aug (i := 2) cx.nd o_ifdiv (pi_glob cx.mg T.g_LONG))))) (ss_one (s_ret (pi_op (o_add cx.K) (pi_op (o_add cx.K) (pi_op o_mul pi_str (pi_T cx.mg fb_int T.n_int (by decide +kernel) (pa_c (pi_cmp o_lt (pi_var 0) pi_int) pa_0))) (pi_T cx.mg fb_str T.n_str (by decide +kernel) (pa_c (pi_var 2) pa_0))) (pi_mt mi_join PySem.F.plainAttrs_str PySem.F.slot_str_join PySem.F.type_str_join pi_str (pa_c (pi_rev cx.K (pi_var 1)) pa_0))))))))
theorem sc_plain_text : FnScope ["value", "cents", "year", "month", "day", "years", "months", "days"] ["value"] (defScope s_plain_text) := ⟨rfl, rfl, rfl, by decide +kernel, rfl, by decide +kernel, by decide +kernel⟩
theorem R_plain_text (T : Txt P c) {fd : FuncData} {ad : Addr} (F : FunD c.K "plain_text" "plain_text" (defArgs s_plain_text) (defBody s_plain_text) (defScope s_plain_text) [] [] ad fd) (D_figures_of : DG P w base c 2 "figures_of" ["number"] f_figures_of) (D_padded : DG P w base c 2 "padded" ["number", "most"] f_padded) : Def P w base c 3 ad ["value"] f_plain_text :=
  mkDef (N := ["value", "cents", "year", "month", "day", "years", "months", "days"]) (ps := ["value"]) F sc_plain_text (fun _ _ _ _ _ _ us hl => match us, hl with | [_], _ => rfl) (fun cdv A outer s H E cx pw => (ss_cons (s_if (pt_cmp (o_eq cx.K cx.units64) (pi_ix cx.K (pi_var 0) pi_int) pi_str) (ss_one (s_ret (pi_js (.cons (pi_fmt (p_call cx D_figures_of (pa_c (pi_ix cx.K (pi_ix cx.K (pi_var 0) pi_int) pi_int) pa_0))) (.cons pi_str (.cons (pi_fmt (p_call cx D_figures_of (pa_c (pi_ix cx.K (pi_ix cx.K (pi_var 0) pi_int) pi_int) pa_0))) .nil)))))) ss_nil) (ss_cons (s_if (pt_cmp (o_eq cx.K cx.units64) (pi_ix cx.K (pi_var 0) pi_int) pi_str) (ss_cons (s_set (i := 1) cx.nd (pi_B cx.mg (fb_abs) T.n_abs (by decide +kernel) (pa_c (pi_ix cx.K (pi_var 0) pi_int) pa_0))) (ss_one (s_ret (pi_js (.cons (pi_fmt (pi_if (pt_cmp o_lt (pi_ix cx.K (pi_var 0) pi_int) pi_int) pi_str pi_str)) (.cons pi_str (.cons (pi_fmt (p_call cx D_figures_of (pa_c (pi_op o_fdiv (pi_var 1) (pi_glob cx.mg T.g_CENTS)) pa_0))) (.cons pi_str (.cons (pi_fmt (p_call cx D_padded (pa_c (pi_op o_mod (pi_var 1) (pi_glob cx.mg T.g_CENTS)) (pa_c pi_int pa_0)))) .nil))))))))) ss_nil) (ss_cons (s_if (pt_cmp (o_eq cx.K cx.units64) (pi_ix cx.K (pi_var 0) pi_int) pi_str) (ss_cons (s_asg pi_bad (g_tup cx.K cx.calm (gs_cons (g_nm (i := 2) cx.nd) (gs_cons (g_nm (i := 3) cx.nd) (gs_cons (g_nm (i := 4) cx.nd) gs_nil))))) (ss_one (s_ret (pi_js (.cons (pi_fmt (pi_var 2)) (.cons pi_str (.cons (pi_fmt (p_call cx D_padded (pa_c (pi_var 3) (pa_c pi_int pa_0)))) (.cons pi_str (.cons (pi_fmt (p_call cx D_padded (pa_c (pi_var 4) (pa_c pi_int pa_0)))) .nil))))))))) ss_nil) (ss_cons (s_asg (pi_ix cx.K (pi_var 0) pi_int) (g_tup cx.K cx.calm (gs_cons (g_nm (i := 5) cx.nd) (gs_cons (g_nm (i := 6) cx.nd) (gs_cons (g_nm (i := 7) cx.nd) gs_nil))))) (ss_one (s_ret (pi_js (.cons (pi_fmt (pi_var 5)) (.cons pi_str (.cons (pi_fmt (pi_var 6)) (.cons pi_str (.cons (pi_fmt (pi_var 7)) (.cons pi_str .nil))))))))))))))
theorem sc_value_text : FnScope ["value", "name", "one"] ["value"] (defScope s_value_text) := ⟨rfl, rfl, rfl, by decide +kernel, rfl, by decide +kernel, by decide +kernel⟩
theorem R_value_text (T : Txt P c) {fd : FuncData} {ad : Addr} (F : FunD c.K "value_text" "value_text" (defArgs s_value_text) (defBody s_value_text) (defScope s_value_text) [] [] ad fd) (D_figures_of : DG P w base c 3 "figures_of" ["number"] f_figures_of) (D_plain_text : DG P w base c 3 "plain_text" ["value"] f_plain_text) : Def P w base c 4 ad ["value"] f_value_text :=
  mkDef (N := ["value", "name", "one"]) (ps := ["value"]) F sc_value_text (fun _ _ _ _ _ _ us hl => match us, hl with | [_], _ => rfl) (fun cdv A outer s H E cx pw => (ss_cons (s_if (pt_v cx.K (pi_isA .bool cx.K cx.mg (pi_var 0) T.n_isinstance T.n_bool)) (ss_one (s_ret (pi_if (pt_v cx.K (pi_var 0)) pi_str pi_str))) ss_nil) (ss_cons (s_if (pt_v cx.K (pi_isA .int cx.K cx.mg (pi_var 0) T.n_isinstance T.n_int)) (ss_one (s_ret (p_call cx D_figures_of (pa_c (pi_var 0) pa_0)))) ss_nil) (ss_cons (s_if (pt_cmp (o_eq cx.K cx.units64) (pi_ix cx.K (pi_var 0) pi_int) pi_str) (ss_one (s_ret (pi_if (pt_cmp o_isN (pi_ix cx.K (pi_var 0) pi_int) pi_non) (pi_ix cx.K (pi_var 0) pi_int) (pi_js (.cons (pi_fmt (pi_ix cx.K (pi_var 0) pi_int)) (.cons pi_str (.cons (pi_fmt pi_bad) (.cons pi_str .nil)))))))) ss_nil) (ss_cons (s_if (pt_cmp (o_eq cx.K cx.units64) (pi_ix cx.K (pi_var 0) pi_int) pi_str) (ss_one (s_ret (pi_op (o_add cx.K) (pi_op (o_add cx.K) pi_str (pi_mt mi_join PySem.F.plainAttrs_str PySem.F.slot_str_join PySem.F.type_str_join pi_str (pa_c pi_bad pa_0))) pi_str))) ss_nil) (ss_cons (s_if (pt_cmp (o_eq cx.K cx.units64) (pi_ix cx.K (pi_var 0) pi_int) pi_str) (ss_one (s_ret (pi_op (o_add cx.K) (pi_op (o_add cx.K) pi_str (pi_mt mi_join PySem.F.plainAttrs_str PySem.F.slot_str_join PySem.F.type_str_join pi_str (pa_c (pi_lc (own := [("one", 2)]) (ws := [2]) false ["value", "name", "one"] (defScope s_value_text) cx (i_seq cx.K (pi_ix cx.K (pi_var 0) pi_int)) (by decide +kernel) (by decide) (fun _ cx ⟨_, _, _, _, _, e⟩ => by subst e; exact ⟨(g_nm (i := 2) cx.nd), pts_0, pi_bad⟩)) pa_0))) pi_str))) ss_nil) (ss_one (s_ret (p_call cx D_plain_text (pa_c (pi_var 0) pa_0))))))))))
theorem sc_write_value : FnScope ["value"] ["value"] (defScope s_write_value) := ⟨rfl, rfl, rfl, by decide +kernel, rfl, by decide +kernel, by decide +kernel⟩
theorem R_write_value (T : Txt P c) {fd : FuncData} {ad : Addr} (F : FunD c.K "write_value" "write_value" (defArgs s_write_value) (defBody s_write_value) (defScope s_write_value) [] [] ad fd) (D_is_value : DG P w base c 4 "is_value" ["value"] f_is_value) (D_check : DG P w base c 4 "check" ["is_right"] f_check) (D_value_text : DG P w base c 4 "value_text" ["value"] f_value_text) : Def P w base c 5 ad ["value"] f_write_value :=
  mkDef (N := ["value"]) (ps := ["value"]) F sc_write_value (fun _ _ _ _ _ _ us hl => match us, hl with | [_], _ => rfl) (fun cdv A outer s H E cx pw => (ss_cons (s_expr (p_call cx D_check (pa_c (p_call cx D_is_value (pa_c (pi_var 0) pa_0)) pa_0))) (ss_one (s_ret (p_call cx D_value_text (pa_c (pi_var 0) pa_0))))))
theorem sc_Signs___init__ : FnScope ["self", "text"] ["self", "text"] (defScope s_Signs___init__) := ⟨rfl, rfl, rfl, by decide +kernel, rfl, by decide +kernel, by decide +kernel⟩
theorem R_Signs___init__ (T : Txt P c) {fd : FuncData} {ad : Addr} (F : FunD c.K "__init__" "Signs.__init__" (defArgs s_Signs___init__) (defBody s_Signs___init__) (defScope s_Signs___init__) [] [] ad fd)  : Def P w base c 1 ad ["self", "text"] f_Signs___init__ :=
  mkDef (N := ["self", "text"]) (ps := ["self", "text"]) F sc_Signs___init__ (fun _ _ _ _ _ _ us hl => match us, hl with | [_, _], _ => rfl) (fun cdv A outer s H E cx pw => (ss_one (s_asgH (pi_tup (pa_c (pi_var 1) (pa_c pi_int pa_0))) (gh_tup cx.K cx.calm (ghs_cons (gh_fld (W := W0) cx.K T.F_3_0 (pi_var 0)) (ghs_cons (gh_fld (W := W0) cx.K T.F_3_1 (pi_var 0)) ghs_nil))))))
theorem sc_Signs_here : FnScope ["self"] ["self"] (defScope s_Signs_here) := ⟨rfl, rfl, rfl, by decide +kernel, rfl, by decide +kernel, by decide +kernel⟩
theorem R_Signs_here (T : Txt P c) {fd : FuncData} {ad : Addr} (F : FunD c.K "here" "Signs.here" (defArgs s_Signs_here) (defBody s_Signs_here) (defScope s_Signs_here) [] [] ad fd)  : Def P w base c 1 ad ["self"] f_Signs_here :=
  mkDef (N := ["self"]) (ps := ["self"]) F sc_Signs_here (fun _ _ _ _ _ _ us hl => match us, hl with | [_], _ => rfl) (fun cdv A outer s H E cx pw => (ss_one (s_ret (pi_sl cx.K (pi_fld cx.K T.F_3_0 (pi_var 0)) (.so (pi_fld cx.K T.F_3_1 (pi_var 0))) (.so (pi_op (o_add cx.K) (pi_fld cx.K T.F_3_1 (pi_var 0)) pi_int))))))
theorem sc_Signs_is_one_of : FnScope ["self", "signs"] ["self", "signs"] (defScope s_Signs_is_one_of) := ⟨rfl, rfl, rfl, by decide +kernel, rfl, by decide +kernel, by decide +kernel⟩
theorem R_Signs_is_one_of (T : Txt P c) {fd : FuncData} {ad : Addr} (F : FunD c.K "is_one_of" "Signs.is_one_of" (defArgs s_Signs_is_one_of) (defBody s_Signs_is_one_of) (defScope s_Signs_is_one_of) [] [] ad fd) (M_3_here : DM P w base c 1 3 "here" ["self"] f_Signs_here) : Def P w base c 2 ad ["self", "signs"] f_Signs_is_one_of :=
  mkDef (N := ["self", "signs"]) (ps := ["self", "signs"]) F sc_Signs_is_one_of (fun _ _ _ _ _ _ us hl => match us, hl with | [_, _], _ => rfl) (fun cdv A outer s H E cx pw => (ss_one (s_ret (pi_and cx.K (pi_cmp (o_ne cx.K cx.units64) (p_meth0 cx M_3_here (pi_var 0)) pi_str) (pi_one (pi_cmp (o_in cx.K (units65 cx)) (p_meth0 cx M_3_here (pi_var 0)) (pi_var 1)))))))
theorem sc_Signs_took : FnScope ["self", "word"] ["self", "word"] (defScope s_Signs_took) := ⟨rfl, rfl, rfl, by decide +kernel, rfl, by decide +kernel, by decide +kernel⟩
theorem R_Signs_took (T : Txt P c) {fd : FuncData} {ad : Addr} (F : FunD c.K "took" "Signs.took" (defArgs s_Signs_took) (defBody s_Signs_took) (defScope s_Signs_took) [] [] ad fd)  : Def P w base c 1 ad ["self", "word"] f_Signs_took :=
  mkDef (N := ["self", "word"]) (ps := ["self", "word"]) F sc_Signs_took (fun _ _ _ _ _ _ us hl => match us, hl with | [_, _], _ => rfl) (fun cdv A outer s H E cx pw => (ss_cons (s_if (pt_n (pt_v cx.K (pi_mt mi_startsAt PySem.F.plainAttrs_str PySem.F.slot_str_startswith PySem.F.type_str_startswith (pi_fld cx.K T.F_3_0 (pi_var 0)) (pa_c (pi_var 1) (pa_c (pi_fld cx.K T.F_3_1 (pi_var 0)) pa_0))))) (ss_one (s_ret pi_bl)) ss_nil) (ss_cons (s_fldA cx.K T.F_3_1 o_iadd (pi_var 0) (pi_B cx.mg (fb_len cx.K) T.n_len (by decide +kernel) (pa_c (pi_var 1) pa_0))) (ss_one (s_ret pi_bl)))))
theorem sc_Signs_figure_run : FnScope ["self", "found"] ["self"] (defScope s_Signs_figure_run) := ⟨rfl, rfl, rfl, by decide +kernel, rfl, by decide +kernel, by decide +kernel⟩
theorem R_Signs_figure_run (T : Txt P c) {fd : FuncData} {ad : Addr} (F : FunD c.K "figure_run" "Signs.figure_run" (defArgs s_Signs_figure_run) (defBody s_Signs_figure_run) (defScope s_Signs_figure_run) [] [] ad fd) (M_3_is_one_of : DM P w base c 2 3 "is_one_of" ["self", "signs"] f_Signs_is_one_of) (M_3_here : DM P w base c 2 3 "here" ["self"] f_Signs_here) : Def P w base c 3 ad ["self"] f_Signs_figure_run :=
  mkDef (N := ["self", "found"]) (ps := ["self"]) F sc_Signs_figure_run (fun _ _ _ _ _ _ us hl => match us, hl with | [_], _ => rfl) (fun cdv A outer s H E cx pw => (ss_cons (s_if (pt_n (pt_v cx.K (p_meth cx M_3_is_one_of (pi_var 0) (pa_c (pi_glob cx.mg T.g_FIGURES) pa_0)))) (ss_one (s_expr pi_bad)) ss_nil) (ss_cons (s_set (i := 1) cx.nd pi_int) (ss_cons (s_while fuelW pw (pt_v cx.K (p_meth cx M_3_is_one_of (pi_var 0) (pa_c (pi_glob cx.mg T.g_FIGURES) pa_0))) (ss_cons (s_set (i := 1) cx.nd (pi_op (o_add cx.K) (pi_op o_mul (pi_var 1) pi_int) (pi_mt mi_indexS PySem.F.plainAttrs_str PySem.F.slot_str_index PySem.F.type_str_index (pi_glob cx.mg T.g_FIGURES) (pa_c (p_meth0 cx M_3_here (pi_var 0)) pa_0)))) (ss_one (s_fldA cx.K T.F_3_1 o_iadd (pi_var 0) pi_int)))) (ss_one (s_ret (pi_var 1)))))))
theorem sc_Signs_figures : FnScope ["self"] ["self"] (defScope s_Signs_figures) := ⟨rfl, rfl, rfl, by decide +kernel, rfl, by decide +kernel, by decide +kernel⟩
theorem R_Signs_figures (T : Txt P c) {fd : FuncData} {ad : Addr} (F : FunD c.K "figures" "Signs.figures" (defArgs s_Signs_figures) (defBody s_Signs_figures) (defScope s_Signs_figures) [] [] ad fd) (M_3_took : DM P w base c 3 3 "took" ["self", "word"] f_Signs_took) (M_3_is_one_of : DM P w base c 3 3 "is_one_of" ["self", "signs"] f_Signs_is_one_of) (M_3_figure_run : DM P w base c 3 3 "figure_run" ["self"] f_Signs_figure_run) : Def P w base c 4 ad ["self"] f_Signs_figures :=
  mkDef (N := ["self"]) (ps := ["self"]) F sc_Signs_figures (fun _ _ _ _ _ _ us hl => match us, hl with | [_], _ => rfl) (fun cdv A outer s H E cx pw => (ss_cons (s_if (pt_v cx.K (p_meth cx M_3_took (pi_var 0) (pa_c pi_str pa_0))) (ss_cons (s_if (pt_v cx.K (p_meth cx M_3_is_one_of (pi_var 0) (pa_c (pi_glob cx.mg T.g_FIGURES) pa_0))) (ss_one (s_expr pi_bad)) ss_nil) (ss_one (s_ret pi_int))) ss_nil) (ss_one (s_ret (p_meth0 cx M_3_figure_run (pi_var 0))))))
theorem sc_ValueSigns_fit : FnScope ["self", "is_fine", "begin", "told"] ["self", "is_fine", "begin", "told"] (defScope s_ValueSigns_fit) := ⟨rfl, rfl, rfl, by decide +kernel, rfl, by decide +kernel, by decide +kernel⟩
theorem R_ValueSigns_fit (T : Txt P c) {fd : FuncData} {ad : Addr} (F : FunD c.K "fit" "ValueSigns.fit" (defArgs s_ValueSigns_fit) (defBody s_ValueSigns_fit) (defScope s_ValueSigns_fit) [] [] ad fd)  : Def P w base c 1 ad ["self", "is_fine", "begin", "told"] f_ValueSigns_fit :=
  mkDef (N := ["self", "is_fine", "begin", "told"]) (ps := ["self", "is_fine", "begin", "told"]) F sc_ValueSigns_fit (fun _ _ _ _ _ _ us hl => match us, hl with | [_, _, _, _], _ => rfl) (fun cdv A outer s H E cx pw => (ss_cons (s_if (pt_n (pt_v cx.K (pi_var 1))) (ss_one (s_raiseM cx T.x_Malformed (pi_var 2))) ss_nil) (ss_one (s_ret (pi_var 3)))))
theorem sc_ValueSigns_over : FnScope ["self", "begin", "above", "below"] ["self", "begin", "above"] (defScope s_ValueSigns_over) := ⟨rfl, rfl, rfl, by decide +kernel, rfl, by decide +kernel, by decide +kernel⟩
theorem R_ValueSigns_over (T : Txt P c) {fd : FuncData} {ad : Addr} (F : FunD c.K "over" "ValueSigns.over" (defArgs s_ValueSigns_over) (defBody s_ValueSigns_over) (defScope s_ValueSigns_over) [] [] ad fd) (M_3_here : DM P w base c 4 3 "here" ["self"] f_Signs_here) (M_3_figures : DM P w base c 4 3 "figures" ["self"] f_Signs_figures) (D_greatest_part : DG P w base c 4 "greatest_part" ["one", "other"] f_greatest_part) (M_3_fit : DM P w base c 4 3 "fit" ["self", "is_fine", "begin", "told"] f_ValueSigns_fit) : Def P w base c 5 ad ["self", "begin", "above"] f_ValueSigns_over :=
  mkDef (N := ["self", "begin", "above", "below"]) (ps := ["self", "begin", "above"]) F sc_ValueSigns_over (fun _ _ _ _ _ _ us hl => match us, hl with | [_, _, _], _ => rfl) (fun cdv A outer s H E cx pw => (ss_cons (s_if (pt_cmp (o_eq cx.K cx.units64) (p_meth0 cx M_3_here (pi_var 0)) pi_str) (ss_one (s_expr pi_bad)) ss_nil) (ss_cons (s_set (i := 3) cx.nd (p_meth0 cx M_3_figures (pi_var 0))) (ss_one (s_ret (p_meth cx M_3_fit (pi_var 0) (pa_c (pi_cmp (o_eq cx.K cx.units64) (p_call cx D_greatest_part (pa_c (pi_B cx.mg (fb_abs) T.n_abs (by decide +kernel) (pa_c (pi_var 2) pa_0)) (pa_c (pi_var 3) pa_0))) pi_int) (pa_c (pi_var 1) (pa_c (pi_tup (pa_c pi_str (pa_c (pi_tup (pa_c (pi_var 2) (pa_c (pi_var 3) pa_0))) pa_0))) pa_0)))))))))
theorem sc_ValueSigns_number : FnScope ["self", "begin", "is_below", "first", "found"] ["self"] (defScope s_ValueSigns_number) := ⟨rfl, rfl, rfl, by decide +kernel, rfl, by decide +kernel, by decide +kernel⟩
theorem R_ValueSigns_number (T : Txt P c) {fd : FuncData} {ad : Addr} (F : FunD c.K "number" "ValueSigns.number" (defArgs s_ValueSigns_number) (defBody s_ValueSigns_number) (defScope s_ValueSigns_number) [] [] ad fd) (M_3_took : DM P w base c 5 3 "took" ["self", "word"] f_Signs_took) (M_3_here : DM P w base c 5 3 "here" ["self"] f_Signs_here) (M_3_figures : DM P w base c 5 3 "figures" ["self"] f_Signs_figures) (M_3_over : DM P w base c 5 3 "over" ["self", "begin", "above"] f_ValueSigns_over) : Def P w base c 6 ad ["self"] f_ValueSigns_number :=
  mkDef (N := ["self", "begin", "is_below", "first", "found"]) (ps := ["self"]) F sc_ValueSigns_number (fun _ _ _ _ _ _ us hl => match us, hl with | [_], _ => rfl) (fun cdv A outer s H E cx pw => (ss_cons (s_par (i := 1) (j := 2) cx.calm cx.nd (pi_fld cx.K T.F_3_1 (pi_var 0)) (p_meth cx M_3_took (pi_var 0) (pa_c pi_str pa_0))) (ss_cons (s_if (pt_v cx.K (p_meth cx M_3_took (pi_var 0) (pa_c pi_str pa_0))) (ss_one (s_ret pi_bad)) ss_nil) (ss_cons (s_if ((pw_an (pt_v cx.K (pi_var 2)) (pw_a1 (pt_cmp (o_eq cx.K cx.units64) (p_meth0 cx M_3_here (pi_var 0)) pi_str))).pt) (ss_one (s_expr pi_bad)) ss_nil) (ss_cons (s_set (i := 3) cx.nd (pi_fld cx.K T.F_3_1 (pi_var 0))) (ss_cons (s_set (i := 4) cx.nd (p_meth0 cx M_3_figures (pi_var 0))) (ss_cons (s_if (pt_v cx.K (p_meth cx M_3_took (pi_var 0) (pa_c pi_str pa_0))) (ss_one (s_ret (p_meth cx M_3_over (pi_var 0) (pa_c (pi_var 1) (pa_c (pi_if (pt_v cx.K (pi_var 2)) (pi_un o_neg (pi_var 4)) (pi_var 4)) pa_0))))) ss_nil) (ss_cons (s_if ((pw_an (pt_n (pt_v cx.K (pi_var 2))) (pw_a1 (pt_cmp (o_eq cx.K cx.units64) (p_meth0 cx M_3_here (pi_var 0)) pi_str))).pt) (ss_one (s_ret pi_bad)) ss_nil) (ss_cons (s_if ((pw_an (pt_n (pt_v cx.K (pi_var 2))) (pw_an (pt_cmp (o_eq cx.K cx.units64) (pi_op o_sub (pi_fld cx.K T.F_3_1 (pi_var 0)) (pi_var 3)) (pi_glob cx.mg T.g_YEAR_FIGURES)) (pw_a1 (pt_v cx.K (p_meth cx M_3_took (pi_var 0) (pa_c pi_str pa_0)))))).pt) (ss_one (s_ret pi_bad)) ss_nil) (ss_one (s_ret (pi_if (pt_v cx.K (pi_var 2)) (pi_un o_neg (pi_var 4)) (pi_var 4)))))))))))))
theorem sc_ValueSigns_value : FnScope ["self"] ["self"] (defScope s_ValueSigns_value) := ⟨rfl, rfl, rfl, by decide +kernel, rfl, by decide +kernel, by decide +kernel⟩
theorem R_ValueSigns_value (T : Txt P c) {fd : FuncData} {ad : Addr} (F : FunD c.K "value" "ValueSigns.value" (defArgs s_ValueSigns_value) (defBody s_ValueSigns_value) (defScope s_ValueSigns_value) [] [] ad fd) (M_3_here : DM P w base c 6 3 "here" ["self"] f_Signs_here) (M_3_is_one_of : DM P w base c 6 3 "is_one_of" ["self", "signs"] f_Signs_is_one_of) (M_3_number : DM P w base c 6 3 "number" ["self"] f_ValueSigns_number) : Def P w base c 7 ad ["self"] f_ValueSigns_value :=
  mkDef (N := ["self"]) (ps := ["self"]) F sc_ValueSigns_value (fun _ _ _ _ _ _ us hl => match us, hl with | [_], _ => rfl) (fun cdv A outer s H E cx pw => (ss_cons (s_if (pt_cmp (o_eq cx.K cx.units64) (p_meth0 cx M_3_here (pi_var 0)) pi_str) (ss_one (s_ret pi_bad)) ss_nil) (ss_cons (s_if (pt_cmp (o_eq cx.K cx.units64) (p_meth0 cx M_3_here (pi_var 0)) pi_str) (ss_one (s_ret pi_bad)) ss_nil) (ss_cons (s_if (pt_v cx.K (p_meth cx M_3_is_one_of (pi_var 0) (pa_c (pi_glob cx.mg T.g_LARGE) pa_0))) (ss_one (s_ret pi_bad)) ss_nil) (ss_cons (s_if (pt_v cx.K (p_meth cx M_3_is_one_of (pi_var 0) (pa_c (pi_glob cx.mg T.g_SMALL) pa_0))) (ss_one (s_ret pi_bad)) ss_nil) (ss_one (s_ret (p_meth0 cx M_3_number (pi_var 0)))))))))
theorem sc_Signs_end : FnScope ["self", "told"] ["self", "told"] (defScope s_Signs_end) := ⟨rfl, rfl, rfl, by decide +kernel, rfl, by decide +kernel, by decide +kernel⟩
theorem R_Signs_end (T : Txt P c) {fd : FuncData} {ad : Addr} (F : FunD c.K "end" "Signs.end" (defArgs s_Signs_end) (defBody s_Signs_end) (defScope s_Signs_end) [] [] ad fd) (M_3_here : DM P w base c 1 3 "here" ["self"] f_Signs_here) : Def P w base c 2 ad ["self", "told"] f_Signs_end :=
  mkDef (N := ["self", "told"]) (ps := ["self", "told"]) F sc_Signs_end (fun _ _ _ _ _ _ us hl => match us, hl with | [_, _], _ => rfl) (fun cdv A outer s H E cx pw => (ss_cons (s_if (pt_cmp (o_ne cx.K cx.units64) (p_meth0 cx M_3_here (pi_var 0)) pi_str) (ss_one (s_expr pi_bad)) ss_nil) (ss_one (s_ret (pi_var 1)))))
theorem sc_read_value : FnScope ["text", "signs"] ["text"] (defScope s_read_value) := ⟨rfl, rfl, rfl, by decide +kernel, rfl, by decide +kernel, by decide +kernel⟩
theorem R_read_value (T : Txt P c) {fd : FuncData} {ad : Addr} (F : FunD c.K "read_value" "read_value" (defArgs s_read_value) (defBody s_read_value) (defScope s_read_value) [] [] ad fd) (D_check : DG P w base c 7 "check" ["is_right"] f_check) (N_3 : DN P w base c 7 3 "ValueSigns" ["self", "text"] f_Signs___init__) (M_3_value : DM P w base c 7 3 "value" ["self"] f_ValueSigns_value) (M_3_end : DM P w base c 7 3 "end" ["self", "told"] f_Signs_end) : Def P w base c 8 ad ["text"] f_read_value :=
  mkDef (N := ["text", "signs"]) (ps := ["text"]) F sc_read_value (fun _ _ _ _ _ _ us hl => match us, hl with | [_], _ => rfl) (fun cdv A outer s H E cx pw => (ss_cons (s_expr (p_call cx D_check (pa_c (pi_isA .str cx.K cx.mg (pi_var 0) T.n_isinstance T.n_str) pa_0))) (ss_cons (s_set (i := 1) cx.nd (p_new cx N_3 (pa_c (pi_var 0) pa_0))) (ss_one (s_ret (p_meth cx M_3_end (pi_var 1) (pa_c (p_meth0 cx M_3_value (pi_var 1)) pa_0)))))))
theorem sc__law_are_ratios_due : FnScope ["draws", "n", "d", "due", "fine", "text", "found", "error"] ["draws"] (defScope s__law_are_ratios_due) := ⟨rfl, rfl, rfl, by decide +kernel, rfl, by decide +kernel, by decide +kernel⟩
theorem R__law_are_ratios_due (T : Txt P c) {fd : FuncData} {ad : Addr} (F : FunD c.K "_law_are_ratios_due" "_law_are_ratios_due" (defArgs s__law_are_ratios_due) (defBody s__law_are_ratios_due) (defScope s__law_are_ratios_due) [] [] ad fd) (D__law_number : DG P w base c 8 "_law_number" ["draws"] f__law_number) (D__law_pick : DG P w base c 8 "_law_pick" ["draws", "some"] f__law_pick) (D__law_least : DG P w base c 8 "_law_least" ["n", "d"] f__law_least) (D_ratio_of : DG P w base c 8 "ratio_of" ["n", "d"] f_ratio_of) (D__law_same : DG P w base c 8 "_law_same" ["told", "due"] (f__law_same 5)) (D_is_ratio : DG P w base c 8 "is_ratio" ["value"] f_is_ratio) (D_is_value : DG P w base c 8 "is_value" ["value"] f_is_value) (D_write_value : DG P w base c 8 "write_value" ["value"] f_write_value) (D_read_value : DG P w base c 8 "read_value" ["text"] f_read_value) (D__law_common : DG P w base c 8 "_law_common" ["n", "d"] f__law_common) : Def P w base c 9 ad ["draws"] f__law_are_ratios_due :=
  mkDef (N := ["draws", "n", "d", "due", "fine", "text", "found", "error"]) (ps := ["draws"]) F sc__law_are_ratios_due (fun _ _ _ _ _ _ us hl => match us, hl with | [_], _ => rfl) (fun cdv A outer s H E cx pw => (ss_cons (s_par (i := 1) (j := 2) cx.calm cx.nd (pi_op o_mul (p_call cx D__law_number (pa_c (pi_var 0) pa_0)) (p_call cx D__law_pick (pa_c (pi_var 0) (pa_c (pi_lst (pa_c pi_int (pa_c pi_int (pa_c (pi_un o_neg pi_int) pa_0)))) pa_0)))) (pi_op o_mul (p_call cx D__law_number (pa_c (pi_var 0) pa_0)) (p_call cx D__law_pick (pa_c (pi_var 0) (pa_c (pi_lst (pa_c pi_int (pa_c pi_int (pa_c (pi_un o_neg pi_int) pa_0)))) pa_0))))) (ss_cons (s_if (pt_cmp (o_eq cx.K cx.units64) (pi_var 2) pi_int) (ss_one (s_set (i := 2) cx.nd pi_int)) ss_nil) (ss_cons (s_asg (p_call cx D__law_pick (pa_c (pi_var 0) (pa_c (pi_lst (pa_c (pi_tup (pa_c (pi_var 1) (pa_c (pi_var 2) pa_0))) (pa_c (pi_tup (pa_c (pi_var 1) (pa_c (pi_var 2) pa_0))) (pa_c (pi_tup (pa_c (pi_op o_sub pi_int (pi_var 1)) (pa_c (pi_var 2) pa_0))) (pa_c (pi_tup (pa_c (pi_op o_mul pi_int (pi_var 1)) (pa_c (pi_op o_mul pi_int (pi_var 2)) pa_0))) (pa_c (pi_tup (pa_c (pi_var 2) (pa_c (pi_var 2) pa_0))) (pa_c (pi_tup (pa_c pi_int (pa_c (pi_var 2) pa_0))) (pa_c (pi_tup (pa_c pi_int (pa_c pi_int pa_0))) (pa_c (pi_tup (pa_c pi_int (pa_c pi_int pa_0))) pa_0))))))))) pa_0))) (g_tup cx.K cx.calm (gs_cons (g_nm (i := 1) cx.nd) (gs_cons (g_nm (i := 2) cx.nd) gs_nil)))) (ss_cons (s_set (i := 3) cx.nd (p_call cx D__law_least (pa_c (pi_var 1) (pa_c (pi_var 2) pa_0)))) (ss_cons (s_if ((pw_on (pt_n (pt_v cx.K (p_call cx D__law_same (pa_c (p_call cx D_ratio_of (pa_c (pi_var 1) (pa_c (pi_var 2) pa_0))) (pa_c (pi_var 3) pa_0))))) (pw_o1 (pt_n (pt_v cx.K (p_call cx D__law_same (pa_c (pi_lst (pa_c (p_call cx D_is_ratio (pa_c (pi_var 3) pa_0)) (pa_c (p_call cx D_is_value (pa_c (pi_tup (pa_c pi_str (pa_c (pi_var 3) pa_0))) pa_0)) pa_0))) (pa_c (pi_lst (pa_c pi_bl (pa_c pi_bl pa_0))) pa_0))))))).pt) (ss_one (s_ret pi_bl)) ss_nil) (ss_cons (s_set (i := 4) cx.nd (pi_cmp (o_eq cx.K cx.units64) (pi_var 3) (pi_tup (pa_c (pi_var 1) (pa_c (pi_var 2) pa_0))))) (ss_cons (s_if ((pw_on (pt_cmp (o_ne cx.K cx.units64) (p_call cx D_is_ratio (pa_c (pi_tup (pa_c (pi_var 1) (pa_c (pi_var 2) pa_0))) pa_0)) (pi_var 4)) (pw_o1 (pt_cmp (o_ne cx.K cx.units64) (p_call cx D_is_value (pa_c (pi_tup (pa_c pi_str (pa_c (pi_tup (pa_c (pi_var 1) (pa_c (pi_var 2) pa_0))) pa_0))) pa_0)) (pi_var 4)))).pt) (ss_one (s_ret pi_bl)) ss_nil) (ss_cons (s_set (i := 5) cx.nd (pi_op (o_add cx.K) (pi_op (o_add cx.K) (pi_op (o_add cx.K) (pi_if (pt_cmp o_lt (pi_var 1) pi_int) pi_str pi_str) (pi_T cx.mg fb_str T.n_str (by decide +kernel) (pa_c (pi_B cx.mg (fb_abs) T.n_abs (by decide +kernel) (pa_c (pi_var 1) pa_0)) pa_0))) pi_str) (pi_T cx.mg fb_str T.n_str (by decide +kernel) (pa_c (pi_B cx.mg (fb_abs) T.n_abs (by decide +kernel) (pa_c (pi_var 2) pa_0)) pa_0)))) (ss_cons (s_if (pt_cmp (o_ne cx.K cx.units64) (p_call cx D_write_value (pa_c (pi_tup (pa_c pi_str (pa_c (pi_var 3) pa_0))) pa_0)) (pi_op (o_add cx.K) (pi_op (o_add cx.K) (pi_T cx.mg fb_str T.n_str (by decide +kernel) (pa_c (pi_ix cx.K (pi_var 3) pi_int) pa_0)) pi_str) (pi_T cx.mg fb_str T.n_str (by decide +kernel) (pa_c (pi_ix cx.K (pi_var 3) pi_int) pa_0)))) (ss_one (s_ret pi_bl)) ss_nil) (ss_cons (s_tryAt (i := 7) (j := 6) cx T.ct_Malformed T.x_Malformed Malformed_only (fun _ pn xe tk pw => by have cx := Ctx.tr cx pn xe tk; exact (ss_one (s_set (i := 6) cx.nd (p_call cx D_read_value (pa_c (pi_var 5) pa_0)))))) (ss_cons (s_if ((pw_an (pt_cmp (o_eq cx.K cx.units64) (pi_var 1) pi_int) (pw_a1 (pt_cmp (o_eq cx.K cx.units64) (pi_ix cx.K (pi_var 5) pi_int) pi_str))).pt) (ss_one (s_ret pi_bl)) ss_nil) (ss_one (s_ret (p_call cx D__law_same (pa_c (pi_var 6) (pa_c (pi_if (pt_cmp (o_eq cx.K cx.units64) (p_call cx D__law_common (pa_c (pi_var 1) (pa_c (pi_var 2) pa_0))) pi_int) (pi_tup (pa_c pi_str (pa_c (pi_tup (pa_c (pi_var 1) (pa_c (pi_B cx.mg (fb_abs) T.n_abs (by decide +kernel) (pa_c (pi_var 2) pa_0)) pa_0))) pa_0))) pi_int) pa_0)))))))))))))))))
theorem sc_rounded_by : FnScope ["number", "way", "n", "d", "nearest"] ["number", "way"] (defScope s_rounded_by) := ⟨rfl, rfl, rfl, by decide +kernel, rfl, by decide +kernel, by decide +kernel⟩
theorem R_rounded_by (T : Txt P c) {fd : FuncData} {ad : Addr} (F : FunD c.K "rounded_by" "rounded_by" (defArgs s_rounded_by) (defBody s_rounded_by) (defScope s_rounded_by) [] [] ad fd)  : Def P w base c 1 ad ["number", "way"] f_rounded_by :=
  mkDef (N := ["number", "way", "n", "d", "nearest"]) (ps := ["number", "way"]) F sc_rounded_by (fun _ _ _ _ _ _ us hl => match us, hl with | [_, _], _ => rfl) (fun cdv A outer s H E cx pw => (ss_cons (s_asg (pi_var 0) (g_tup cx.K cx.calm (gs_cons (g_nm (i := 2) cx.nd) (gs_cons (g_nm (i := 3) cx.nd) gs_nil)))) (ss_cons (s_if (pt_cmp (o_eq cx.K cx.units64) (pi_var 1) pi_str) (ss_one (s_ret (pi_op o_fdiv (pi_var 2) (pi_var 3)))) ss_nil) (ss_cons (s_if (pt_cmp (o_eq cx.K cx.units64) (pi_var 1) pi_str) (ss_one (s_ret (pi_un o_neg (pi_op o_fdiv (pi_un o_neg (pi_var 2)) (pi_var 3))))) ss_nil) (ss_cons (s_set (i := 4) cx.nd (pi_op o_fdiv (pi_op (o_add cx.K) (pi_op o_mul pi_int (pi_B cx.mg (fb_abs) T.n_abs (by decide +kernel) (pa_c (pi_var 2) pa_0))) (pi_var 3)) (pi_op o_mul pi_int (pi_var 3)))) (ss_one (s_ret (pi_if (pt_cmp o_ge (pi_var 2) pi_int) (pi_var 4) (pi_un o_neg (pi_var 4))))))))))
theorem sc_rounded : FnScope ["number", "way"] ["number", "way"] (defScope s_rounded) := ⟨rfl, rfl, rfl, by decide +kernel, rfl, by decide +kernel, by decide +kernel⟩
theorem R_rounded (T : Txt P c) {fd : FuncData} {ad : Addr} (F : FunD c.K "rounded" "rounded" (defArgs s_rounded) (defBody s_rounded) (defScope s_rounded) [] [] ad fd) (D_is_ratio : DG P w base c 2 "is_ratio" ["value"] f_is_ratio) (D_check : DG P w base c 2 "check" ["is_right"] f_check) (D_rounded_by : DG P w base c 2 "rounded_by" ["number", "way"] f_rounded_by) : Def P w base c 3 ad ["number", "way"] f_rounded :=
  mkDef (N := ["number", "way"]) (ps := ["number", "way"]) F sc_rounded (fun _ _ _ _ _ _ us hl => match us, hl with | [_, _], _ => rfl) (fun cdv A outer s H E cx pw => (ss_cons (s_expr (p_call cx D_check (pa_c (pi_and cx.K (p_call cx D_is_ratio (pa_c (pi_var 0) pa_0)) (pi_and cx.K (pi_isA .str cx.K cx.mg (pi_var 1) T.n_isinstance T.n_str) (pi_one (pi_cmp (o_in cx.K (units65 cx)) (pi_var 1) (pi_glob cx.mg T.g_WAYS))))) pa_0))) (ss_one (s_ret (p_call cx D_rounded_by (pa_c (pi_var 0) (pa_c (pi_var 1) pa_0)))))))
theorem sc__law_is_rounded : FnScope ["draws", "n", "d", "low", "near", "way"] ["draws"] (defScope s__law_is_rounded) := ⟨rfl, rfl, rfl, by decide +kernel, rfl, by decide +kernel, by decide +kernel⟩
theorem R__law_is_rounded (T : Txt P c) {fd : FuncData} {ad : Addr} (F : FunD c.K "_law_is_rounded" "_law_is_rounded" (defArgs s__law_is_rounded) (defBody s__law_is_rounded) (defScope s__law_is_rounded) [] [] ad fd) (D__law_number : DG P w base c 6 "_law_number" ["draws"] f__law_number) (D__law_pick : DG P w base c 6 "_law_pick" ["draws", "some"] f__law_pick) (D__law_least : DG P w base c 6 "_law_least" ["n", "d"] f__law_least) (D_rounded : DG P w base c 6 "rounded" ["number", "way"] f_rounded) (D__law_same : DG P w base c 6 "_law_same" ["told", "due"] (f__law_same 5)) : Def P w base c 7 ad ["draws"] f__law_is_rounded :=
  mkDef (N := ["draws", "n", "d", "low", "near", "way"]) (ps := ["draws"]) F sc__law_is_rounded (fun _ _ _ _ _ _ us hl => match us, hl with | [_], _ => rfl) (fun cdv A outer s H E cx pw => (ss_cons (s_asg (p_call cx D__law_least (pa_c (pi_op o_mul (p_call cx D__law_number (pa_c (pi_var 0) pa_0)) (p_call cx D__law_pick (pa_c (pi_var 0) (pa_c (pi_lst (pa_c pi_int (pa_c (pi_un o_neg pi_int) pa_0))) pa_0)))) (pa_c (pi_op (o_add cx.K) pi_int (p_call cx D__law_number (pa_c (pi_var 0) pa_0))) pa_0))) (g_tup cx.K cx.calm (gs_cons (g_nm (i := 1) cx.nd) (gs_cons (g_nm (i := 2) cx.nd) gs_nil)))) (ss_cons (s_set (i := 3) cx.nd (pi_op o_fdiv (pi_var 1) (pi_var 2))) (ss_cons (s_set (i := 4) cx.nd (pi_if ((pw_on (pt_cmp o_lt (pi_op o_mul pi_int (pi_op o_sub (pi_var 1) (pi_op o_mul (pi_var 3) (pi_var 2)))) (pi_var 2)) (pw_o1 ((pw_an (pt_cmp (o_eq cx.K cx.units64) (pi_op o_mul pi_int (pi_op o_sub (pi_var 1) (pi_op o_mul (pi_var 3) (pi_var 2)))) (pi_var 2)) (pw_a1 (pt_cmp o_lt (pi_var 1) pi_int))).pt))).pt) (pi_var 3) (pi_op (o_add cx.K) (pi_var 3) pi_int))) (ss_one (s_ret (p_call cx D__law_same (pa_c (pi_lc (own := [("way", 5)]) (ws := [5]) false ["draws", "n", "d", "low", "near", "way"] (defScope s__law_is_rounded) cx (i_seq cx.K (pi_lst (pa_c pi_str (pa_c pi_str (pa_c pi_str pa_0))))) (by decide +kernel) (by decide) (fun _ cx ⟨_, _, _, _, _, e⟩ => by subst e; exact ⟨(g_nm (i := 5) cx.nd), pts_0, (p_call cx D_rounded (pa_c (pi_tup (pa_c (pi_var 1) (pa_c (pi_var 2) pa_0))) (pa_c (pi_var 5) pa_0)))⟩)) (pa_c (pi_lst (pa_c (pi_var 3) (pa_c (pi_if (pt_cmp (o_eq cx.K cx.units64) (pi_op o_mul (pi_var 3) (pi_var 2)) (pi_var 1)) (pi_var 3) (pi_op (o_add cx.K) (pi_var 3) pi_int)) (pa_c (pi_var 4) pa_0)))) pa_0)))))))))
theorem sc_compared_by : FnScope ["one", "other", "left", "right"] ["one", "other"] (defScope s_compared_by) := ⟨rfl, rfl, rfl, by decide +kernel, rfl, by decide +kernel, by decide +kernel⟩
theorem R_compared_by (T : Txt P c) {fd : FuncData} {ad : Addr} (F : FunD c.K "compared_by" "compared_by" (defArgs s_compared_by) (defBody s_compared_by) (defScope s_compared_by) [] [] ad fd)  : Def P w base c 1 ad ["one", "other"] f_compared_by :=
  mkDef (N := ["one", "other", "left", "right"]) (ps := ["one", "other"]) F sc_compared_by (fun _ _ _ _ _ _ us hl => match us, hl with | [_, _], _ => rfl) (fun cdv A outer s H E cx pw => (ss_cons (s_if (pt_v cx.K (pi_isA .int cx.K cx.mg (pi_var 0) T.n_isinstance T.n_int)) (ss_one (s_par (i := 2) (j := 3) cx.calm cx.nd (pi_var 0) (pi_var 1))) (ss_one (s_if (pt_cmp (o_eq cx.K cx.units64) (pi_ix cx.K (pi_var 0) pi_int) pi_str) (ss_one (s_par (i := 2) (j := 3) cx.calm cx.nd (pi_op o_mul (pi_ix cx.K (pi_ix cx.K (pi_var 0) pi_int) pi_int) (pi_ix cx.K (pi_ix cx.K (pi_var 1) pi_int) pi_int)) (pi_op o_mul (pi_ix cx.K (pi_ix cx.K (pi_var 1) pi_int) pi_int) (pi_ix cx.K (pi_ix cx.K (pi_var 0) pi_int) pi_int)))) (ss_one (s_par (i := 2) (j := 3) cx.calm cx.nd (pi_ix cx.K (pi_var 0) pi_int) (pi_ix cx.K (pi_var 1) pi_int)))))) (ss_one (s_ret (pi_op o_sub (pi_T cx.mg fb_int T.n_int (by decide +kernel) (pa_c (pi_cmp o_gt (pi_var 2) (pi_var 3)) pa_0)) (pi_T cx.mg fb_int T.n_int (by decide +kernel) (pa_c (pi_cmp o_lt (pi_var 2) (pi_var 3)) pa_0)))))))
theorem sc_compare_values : FnScope ["one", "other"] ["one", "other"] (defScope s_compare_values) := ⟨rfl, rfl, rfl, by decide +kernel, rfl, by decide +kernel, by decide +kernel⟩
theorem R_compare_values (T : Txt P c) {fd : FuncData} {ad : Addr} (F : FunD c.K "compare_values" "compare_values" (defArgs s_compare_values) (defBody s_compare_values) (defScope s_compare_values) [] [] ad fd) (D_is_value : DG P w base c 3 "is_value" ["value"] f_is_value) (D_check : DG P w base c 3 "check" ["is_right"] f_check) (D_is_integer : DG P w base c 3 "is_integer" ["value"] f_is_integer) (D_compared_by : DG P w base c 3 "compared_by" ["one", "other"] f_compared_by) : Def P w base c 4 ad ["one", "other"] f_compare_values :=
  mkDef (N := ["one", "other"]) (ps := ["one", "other"]) F sc_compare_values (fun _ _ _ _ _ _ us hl => match us, hl with | [_, _], _ => rfl) (fun cdv A outer s H E cx pw => (ss_cons (s_expr (p_call cx D_check (pa_c (pi_and cx.K (p_call cx D_is_value (pa_c (pi_var 0) pa_0)) (pi_one (p_call cx D_is_value (pa_c (pi_var 1) pa_0)))) pa_0))) (ss_cons (s_if (pt_n ((pw_an (pt_v cx.K (p_call cx D_is_integer (pa_c (pi_var 0) pa_0))) (pw_a1 (pt_v cx.K (p_call cx D_is_integer (pa_c (pi_var 1) pa_0))))).pt)) (ss_one (s_expr (p_call cx D_check (pa_c (pi_and cx.K (pi_isA .tuple cx.K cx.mg (pi_var 0) T.n_isinstance T.n_tuple) (pi_and cx.K (pi_isA .tuple cx.K cx.mg (pi_var 1) T.n_isinstance T.n_tuple) (pi_and cx.K (pi_cmp (o_eq cx.K cx.units64) (pi_ix cx.K (pi_var 0) pi_int) (pi_ix cx.K (pi_var 1) pi_int)) (pi_one (pi_cmp (o_in cx.K (units65 cx)) (pi_ix cx.K (pi_var 0) pi_int) (pi_glob cx.mg T.g_COMPARED)))))) pa_0)))) ss_nil) (ss_one (s_ret (p_call cx D_compared_by (pa_c (pi_var 0) (pa_c (pi_var 1) pa_0))))))))
theorem sc__law_is_compared : FnScope ["draws", "a", "b", "one", "other", "left", "right", "due", "days", "told"] ["draws"] (defScope s__law_is_compared) := ⟨rfl, rfl, rfl, by decide +kernel, rfl, by decide +kernel, by decide +kernel⟩
theorem R__law_is_compared (T : Txt P c) {fd : FuncData} {ad : Addr} (F : FunD c.K "_law_is_compared" "_law_is_compared" (defArgs s__law_is_compared) (defBody s__law_is_compared) (defScope s__law_is_compared) [] [] ad fd) (D__law_number : DG P w base c 6 "_law_number" ["draws"] f__law_number) (D__law_pick : DG P w base c 6 "_law_pick" ["draws", "some"] f__law_pick) (D__law_least : DG P w base c 6 "_law_least" ["n", "d"] f__law_least) (D_compare_values : DG P w base c 6 "compare_values" ["one", "other"] f_compare_values) (D__law_same : DG P w base c 6 "_law_same" ["told", "due"] (f__law_same 5)) (D__law_take : DG P w base c 6 "_law_take" ["draws", "bound"] f__law_take) : Def P w base c 7 ad ["draws"] f__law_is_compared :=
  mkDef (N := ["draws", "a", "b", "one", "other", "left", "right", "due", "days", "told"]) (ps := ["draws"]) F sc__law_is_compared (fun _ _ _ _ _ _ us hl => match us, hl with | [_], _ => rfl) (fun cdv A outer s H E cx pw => (ss_cons (s_par (i := 1) (j := 2) cx.calm cx.nd (pi_op o_mul (p_call cx D__law_number (pa_c (pi_var 0) pa_0)) (p_call cx D__law_pick (pa_c (pi_var 0) (pa_c (pi_lst (pa_c pi_int (pa_c (pi_un o_neg pi_int) pa_0))) pa_0)))) (pi_op o_mul (p_call cx D__law_number (pa_c (pi_var 0) pa_0)) (p_call cx D__law_pick (pa_c (pi_var 0) (pa_c (pi_lst (pa_c pi_int (pa_c (pi_un o_neg pi_int) pa_0))) pa_0))))) (ss_cons (s_par (i := 3) (j := 4) cx.calm cx.nd (p_call cx D__law_least (pa_c (pi_var 1) (pa_c (pi_op (o_add cx.K) pi_int (p_call cx D__law_number (pa_c (pi_var 0) pa_0))) pa_0))) (p_call cx D__law_least (pa_c (p_call cx D__law_pick (pa_c (pi_var 0) (pa_c (pi_lst (pa_c (pi_var 2) (pa_c (pi_var 1) pa_0))) pa_0))) (pa_c (pi_op (o_add cx.K) pi_int (p_call cx D__law_number (pa_c (pi_var 0) pa_0))) pa_0)))) (ss_cons (s_par (i := 5) (j := 6) cx.calm cx.nd (pi_op o_mul (pi_ix cx.K (pi_var 3) pi_int) (pi_ix cx.K (pi_var 4) pi_int)) (pi_op o_mul (pi_ix cx.K (pi_var 4) pi_int) (pi_ix cx.K (pi_var 3) pi_int))) (ss_cons (s_set (i := 7) cx.nd (pi_op o_sub (pi_T cx.mg fb_int T.n_int (by decide +kernel) (pa_c (pi_cmp o_gt (pi_var 5) (pi_var 6)) pa_0)) (pi_T cx.mg fb_int T.n_int (by decide +kernel) (pa_c (pi_cmp o_lt (pi_var 5) (pi_var 6)) pa_0)))) (ss_cons (s_if (pt_n (pt_v cx.K (p_call cx D__law_same (pa_c (pi_lst (pa_c (p_call cx D_compare_values (pa_c (pi_tup (pa_c pi_str (pa_c (pi_var 3) pa_0))) (pa_c (pi_tup (pa_c pi_str (pa_c (pi_var 4) pa_0))) pa_0))) (pa_c (p_call cx D_compare_values (pa_c (pi_tup (pa_c pi_str (pa_c (pi_var 4) pa_0))) (pa_c (pi_tup (pa_c pi_str (pa_c (pi_var 3) pa_0))) pa_0))) pa_0))) (pa_c (pi_lst (pa_c (pi_var 7) (pa_c (pi_op o_sub pi_int (pi_var 7)) pa_0))) pa_0))))) (ss_one (s_ret pi_bl)) ss_nil) (ss_cons (s_set (i := 8) cx.nd (pi_lst (pa_c (p_call cx D__law_take (pa_c (pi_var 0) (pa_c pi_int pa_0))) (pa_c (p_call cx D__law_take (pa_c (pi_var 0) (pa_c pi_int pa_0))) pa_0)))) (ss_cons (s_set (i := 9) cx.nd (pi_lst (pa_c (p_call cx D_compare_values (pa_c (pi_var 1) (pa_c (pi_var 2) pa_0))) (pa_c (p_call cx D_compare_values (pa_c (pi_tup (pa_c pi_str (pa_c (pi_var 1) pa_0))) (pa_c (pi_tup (pa_c pi_str (pa_c (pi_var 2) pa_0))) pa_0))) (pa_c (p_call cx D_compare_values (pa_c (pi_tup (pa_c pi_str (pa_c (pi_ix cx.K (pi_var 8) pi_int) pa_0))) (pa_c (pi_tup (pa_c pi_str (pa_c (pi_ix cx.K (pi_var 8) pi_int) pa_0))) pa_0))) (pa_c (p_call cx D_compare_values (pa_c (pi_tup (pa_c pi_str (pa_c (pi_var 3) pa_0))) (pa_c (pi_tup (pa_c pi_str (pa_c (pi_var 3) pa_0))) pa_0))) pa_0)))))) (ss_one (s_ret (p_call cx D__law_same (pa_c (pi_var 9) (pa_c (pi_op (o_add cx.K) (pi_op o_mul (pi_lst (pa_c (pi_op o_sub (pi_T cx.mg fb_int T.n_int (by decide +kernel) (pa_c (pi_cmp o_gt (pi_var 1) (pi_var 2)) pa_0)) (pi_T cx.mg fb_int T.n_int (by decide +kernel) (pa_c (pi_cmp o_lt (pi_var 1) (pi_var 2)) pa_0))) pa_0)) pi_int) (pi_lst (pa_c (pi_op o_sub (pi_T cx.mg fb_int T.n_int (by decide +kernel) (pa_c (pi_cmp o_gt (pi_ix cx.K (pi_var 8) pi_int) (pi_ix cx.K (pi_var 8) pi_int)) pa_0)) (pi_T cx.mg fb_int T.n_int (by decide +kernel) (pa_c (pi_cmp o_lt (pi_ix cx.K (pi_var 8) pi_int) (pi_ix cx.K (pi_var 8) pi_int)) pa_0))) (pa_c pi_int pa_0)))) pa_0)))))))))))))
theorem sc__law_word : FnScope ["draws", "plain", "odd", "found", "k"] ["draws"] (defScope s__law_word) := ⟨rfl, rfl, rfl, by decide +kernel, rfl, by decide +kernel, by decide +kernel⟩
theorem R__law_word (T : Txt P c) {fd : FuncData} {ad : Addr} (F : FunD c.K "_law_word" "_law_word" (defArgs s__law_word) (defBody s__law_word) (defScope s__law_word) [] [] ad fd) (D__law_pick : DG P w base c 2 "_law_pick" ["draws", "some"] f__law_pick) (D__law_take : DG P w base c 2 "_law_take" ["draws", "bound"] f__law_take) : Def P w base c 3 ad ["draws"] f__law_word :=
  mkDef (N := ["draws", "plain", "odd", "found", "k"]) (ps := ["draws"]) F sc__law_word (fun _ _ _ _ _ _ us hl => match us, hl with | [_], _ => rfl) (fun cdv A outer s H E cx pw => (ss_cons (s_asg (pi_tup (pa_c pi_str (pa_c pi_str pa_0))) (g_tup cx.K cx.calm (gs_cons (g_nm (i := 1) cx.nd) (gs_cons (g_nm (i := 2) cx.nd) gs_nil)))) (ss_cons (s_set (i := 3) cx.nd (p_call cx D__law_pick (pa_c (pi_var 0) (pa_c (pi_lst (pa_c pi_str (pa_c pi_str (pa_c pi_str (pa_c pi_str (pa_c pi_str (pa_c pi_str (pa_c pi_str (pa_c pi_str (pa_c pi_str pa_0)))))))))) pa_0)))) (ss_cons (s_for pw cx.calm (i_rng1 cx.mg T.n_range (pa_c (p_call cx D__law_pick (pa_c (pi_var 0) (pa_c (pi_lst (pa_c pi_int (pa_c pi_int (pa_c pi_int (pa_c pi_int (pa_c pi_int (pa_c pi_int (pa_c pi_int pa_0)))))))) pa_0))) pa_0)) (g_nm (i := 4) cx.nd) (ss_one (s_set (i := 3) cx.nd (pi_op (o_add cx.K) (pi_var 3) (pi_if (pt_cmp (o_eq cx.K cx.units64) (p_call cx D__law_take (pa_c (pi_var 0) (pa_c pi_int pa_0))) pi_int) (pi_ix cx.K (pi_var 2) (p_call cx D__law_take (pa_c (pi_var 0) (pa_c (pi_B cx.mg (fb_len cx.K) T.n_len (by decide +kernel) (pa_c (pi_var 2) pa_0)) pa_0)))) (pi_ix cx.K (pi_var 1) (p_call cx D__law_take (pa_c (pi_var 0) (pa_c (pi_B cx.mg (fb_len cx.K) T.n_len (by decide +kernel) (pa_c (pi_var 1) pa_0)) pa_0))))))))) (ss_one (s_ret (pi_var 3)))))))
theorem sc_is_name : FnScope ["value"] ["value"] (defScope s_is_name) := ⟨rfl, rfl, rfl, by decide +kernel, rfl, by decide +kernel, by decide +kernel⟩
theorem R_is_name (T : Txt P c) {fd : FuncData} {ad : Addr} (F : FunD c.K "is_name" "is_name" (defArgs s_is_name) (defBody s_is_name) (defScope s_is_name) [] [] ad fd) (D_begins_and_goes_on : DG P w base c 1 "begins_and_goes_on" ["value", "first", "others"] f_begins_and_goes_on) : Def P w base c 2 ad ["value"] f_is_name :=
  mkDef (N := ["value"]) (ps := ["value"]) F sc_is_name (fun _ _ _ _ _ _ us hl => match us, hl with | [_], _ => rfl) (fun cdv A outer s H E cx pw => (ss_one (s_ret (p_call cx D_begins_and_goes_on (pa_c (pi_var 0) (pa_c (pi_glob cx.mg T.g_SMALL) (pa_c (pi_op (o_add cx.K) (pi_op (o_add cx.K) (pi_glob cx.mg T.g_SMALL) (pi_glob cx.mg T.g_FIGURES)) pi_str) pa_0)))))))
theorem sc_is_path : FnScope ["value", "name"] ["value"] (defScope s_is_path) := ⟨rfl, rfl, rfl, by decide +kernel, rfl, by decide +kernel, by decide +kernel⟩
theorem R_is_path (T : Txt P c) {fd : FuncData} {ad : Addr} (F : FunD c.K "is_path" "is_path" (defArgs s_is_path) (defBody s_is_path) (defScope s_is_path) [] [] ad fd) (D_is_name : DG P w base c 2 "is_name" ["value"] f_is_name) : Def P w base c 3 ad ["value"] f_is_path :=
  mkDef (N := ["value", "name"]) (ps := ["value"]) F sc_is_path (fun _ _ _ _ _ _ us hl => match us, hl with | [_], _ => rfl) (fun cdv A outer s H E cx pw => (ss_one (s_ret (pi_and cx.K (pi_isA .tuple cx.K cx.mg (pi_var 0) T.n_isinstance T.n_tuple) (pi_and cx.K (pi_cmp (o_in cx.K (units65 cx)) (pi_B cx.mg (fb_len cx.K) T.n_len (by decide +kernel) (pa_c (pi_var 0) pa_0)) (pi_tup (pa_c pi_int (pa_c pi_int pa_0)))) (pi_one (pi_B cx.mg (fb_all cx.calm) T.n_all (by decide +kernel) (pa_c (pi_lc (own := [("name", 1)]) (ws := [1]) false ["value", "name"] (defScope s_is_path) cx (i_seq cx.K (pi_var 0)) (by decide +kernel) (by decide) (fun _ cx ⟨_, _, _, _, _, e⟩ => by subst e; exact ⟨(g_nm (i := 1) cx.nd), pts_0, (p_call cx D_is_name (pa_c (pi_var 1) pa_0))⟩)) pa_0))))))))
theorem sc__law_are_words_due : FnScope ["draws", "small", "great", "figures", "words", "due", "word", "fine", "plain", "names", "k", "sign", "more"] ["draws"] (defScope s__law_are_words_due) := ⟨rfl, rfl, rfl, by decide +kernel, rfl, by decide +kernel, by decide +kernel⟩
theorem R__law_are_words_due (T : Txt P c) {fd : FuncData} {ad : Addr} (F : FunD c.K "_law_are_words_due" "_law_are_words_due" (defArgs s__law_are_words_due) (defBody s__law_are_words_due) (defScope s__law_are_words_due) [] [] ad fd) (D__law_word : DG P w base c 6 "_law_word" ["draws"] f__law_word) (D_is_name : DG P w base c 6 "is_name" ["value"] f_is_name) (D_is_case_word : DG P w base c 6 "is_case_word" ["value"] f_is_case_word) (D__law_same : DG P w base c 6 "_law_same" ["told", "due"] (f__law_same 5)) (D_is_path : DG P w base c 6 "is_path" ["value"] f_is_path) : Def P w base c 7 ad ["draws"] f__law_are_words_due :=
  mkDef (N := ["draws", "small", "great", "figures", "words", "due", "word", "fine", "plain", "names", "k", "sign", "more"]) (ps := ["draws"]) F sc__law_are_words_due (fun _ _ _ _ _ _ us hl => match us, hl with | [_], _ => rfl) (fun cdv A outer s H E cx pw => (ss_cons (s_asg (pi_tup (pa_c pi_str (pa_c pi_str (pa_c pi_str pa_0)))) (g_tup cx.K cx.calm (gs_cons (g_nm (i := 1) cx.nd) (gs_cons (g_nm (i := 2) cx.nd) (gs_cons (g_nm (i := 3) cx.nd) gs_nil))))) (ss_cons (s_setLc (own := [("k", 10)]) (ws := [10]) false ["draws", "small", "great", "figures", "words", "due", "word", "fine", "plain", "names", "k", "sign", "more"] (defScope s__law_are_words_due) cx (i_rng1 cx.mg T.n_range (pa_c pi_int pa_0)) (by decide +kernel) (by decide) (fun _ cx ⟨_, _, _, _, _, e⟩ => by subst e; exact ⟨(g_nm (i := 10) cx.nd), pts_0, (p_call cx D__law_word (pa_c (pi_var 0) pa_0))⟩)) (ss_cons (s_set (i := 5) cx.nd (pi_lstL pa_0)) (ss_cons (s_for pw cx.calm (i_seq cx.K (pi_var 4)) (g_nm (i := 6) cx.nd) (ss_cons (s_set (i := 7) cx.nd (pi_chain o_le o_le pi_int (pi_B cx.mg (fb_len cx.K) T.n_len (by decide +kernel) (pa_c (pi_var 6) pa_0)) pi_int)) (ss_cons (s_set (i := 8) cx.nd (pi_and cx.K (pi_var 7) (pi_and cx.K (pi_cmp (o_in cx.K (units65 cx)) (pi_ix cx.K (pi_var 6) pi_int) (pi_var 1)) (pi_one (pi_cmp (o_eq cx.K cx.units64) (pi_lc (own := [("sign", 11)]) (ws := [11]) false ["draws", "small", "great", "figures", "words", "due", "word", "fine", "plain", "names", "k", "sign", "more"] (defScope s__law_are_words_due) cx (i_str (pi_var 6)) (by decide +kernel) (by decide) (fun _ cx ⟨_, _, _, _, _, e⟩ => by subst e; exact ⟨(g_nm (i := 11) cx.nd), (pts_1 (pt_cmp (o_notIn cx.K (units65 cx)) (pi_var 11) (pi_op (o_add cx.K) (pi_var 1) (pi_var 3)))), (pi_var 11)⟩)) (pi_lst pa_0)))))) (ss_one (s_expr (pi_mt mi_append PySem.F.plainAttrs_list PySem.F.slot_list_append PySem.F.type_list_append (pi_var 5) (pa_c (pi_tup (pa_c (pi_var 8) (pa_c (pi_and cx.K (pi_var 7) (pi_and cx.K (pi_cmp (o_in cx.K (units65 cx)) (pi_ix cx.K (pi_var 6) pi_int) (pi_var 2)) (pi_one (pi_cmp (o_eq cx.K cx.units64) (pi_lc (own := [("sign", 11)]) (ws := [11]) false ["draws", "small", "great", "figures", "words", "due", "word", "fine", "plain", "names", "k", "sign", "more"] (defScope s__law_are_words_due) cx (i_str (pi_var 6)) (by decide +kernel) (by decide) (fun _ cx ⟨_, _, _, _, _, e⟩ => by subst e; exact ⟨(g_nm (i := 11) cx.nd), (pts_1 (pt_cmp (o_notIn cx.K (units65 cx)) (pi_var 11) (pi_op (o_add cx.K) (pi_op (o_add cx.K) (pi_var 1) (pi_var 2)) (pi_var 3)))), (pi_var 11)⟩)) (pi_lst pa_0))))) pa_0))) pa_0))))))) (ss_cons (s_if (pt_n (pt_v cx.K (p_call cx D__law_same (pa_c (pi_lc (own := [("word", 6)]) (ws := [6]) false ["draws", "small", "great", "figures", "words", "due", "word", "fine", "plain", "names", "k", "sign", "more"] (defScope s__law_are_words_due) cx (i_seq cx.K (pi_var 4)) (by decide +kernel) (by decide) (fun _ cx ⟨_, _, _, _, _, e⟩ => by subst e; exact ⟨(g_nm (i := 6) cx.nd), pts_0, (pi_tup (pa_c (p_call cx D_is_name (pa_c (pi_var 6) pa_0)) (pa_c (p_call cx D_is_case_word (pa_c (pi_var 6) pa_0)) pa_0)))⟩)) (pa_c (pi_var 5) pa_0))))) (ss_one (s_ret pi_bl)) ss_nil) (ss_cons (s_setLc (own := [("fine", 7), ("more", 12)]) (ws := ([7] ++ ([12] ++ []))) false ["draws", "small", "great", "figures", "words", "due", "word", "fine", "plain", "names", "k", "sign", "more"] (defScope s__law_are_words_due) cx (i_seq cx.K (pi_var 5)) (by decide +kernel) (by decide) (fun _ cx ⟨_, _, _, _, _, e⟩ => by subst e; exact ⟨(g_tup cx.K cx.calm (gs_cons (g_nm (i := 7) cx.nd) (gs_cons (g_nm (i := 12) cx.nd) gs_nil))), pts_0, (pi_var 7)⟩)) (ss_one (s_ret (p_call cx D__law_same (pa_c (pi_lst (pa_c (p_call cx D_is_path (pa_c (pi_tup (pa_c (pi_ix cx.K (pi_var 4) pi_int) pa_0)) pa_0)) (pa_c (p_call cx D_is_path (pa_c (pi_tup (pa_c (pi_ix cx.K (pi_var 4) pi_int) (pa_c (pi_ix cx.K (pi_var 4) pi_int) pa_0))) pa_0)) (pa_c (p_call cx D_is_path (pa_c (pi_tup (pa_c (pi_ix cx.K (pi_var 4) pi_int) (pa_c pi_str pa_0))) pa_0)) (pa_c (p_call cx D_is_path (pa_c (pi_tup (pa_c pi_str (pa_c (pi_ix cx.K (pi_var 4) pi_int) pa_0))) pa_0)) pa_0))))) (pa_c (pi_lst (pa_c (pi_ix cx.K (pi_var 9) pi_int) (pa_c (pi_and cx.K (pi_ix cx.K (pi_var 9) pi_int) (pi_one (pi_ix cx.K (pi_var 9) pi_int))) (pa_c (pi_ix cx.K (pi_var 9) pi_int) (pa_c (pi_ix cx.K (pi_var 9) pi_int) pa_0))))) pa_0))))))))))))
theorem sc__law_is_refused : FnScope ["which", "one", "two"] ["which", "one", "two"] (defScope s__law_is_refused) := ⟨rfl, rfl, rfl, by decide +kernel, rfl, by decide +kernel, by decide +kernel⟩
theorem R__law_is_refused (T : Txt P c) {fd : FuncData} {ad : Addr} (F : FunD c.K "_law_is_refused" "_law_is_refused" (defArgs s__law_is_refused) (defBody s__law_is_refused) (defScope s__law_is_refused) [] [] ad fd) (D_compare_values : DG P w base c 4 "compare_values" ["one", "other"] f_compare_values) (D_ratio_of : DG P w base c 4 "ratio_of" ["n", "d"] f_ratio_of) (D_rounded : DG P w base c 4 "rounded" ["number", "way"] f_rounded) : Def P w base c 5 ad ["which", "one", "two"] f__law_is_refused :=
  mkDef (N := ["which", "one", "two"]) (ps := ["which", "one", "two"]) F sc__law_is_refused (fun _ _ _ _ _ _ us hl => match us, hl with | [_, _, _], _ => rfl) (fun cdv A outer s H E cx pw => (ss_one (s_try cx.K cx.mg T.ct_NotRight cx.tk (fun _ pn xe tk pw => by have cx := Ctx.tr cx pn xe tk; exact (ss_cons (s_if (pt_cmp (o_eq cx.K cx.units64) (pi_var 0) pi_int) (ss_one (s_expr (p_call cx D_compare_values (pa_c (pi_var 1) (pa_c (pi_var 2) pa_0))))) (ss_one (s_expr (pi_callV cx (tblF2 D_ratio_of.ex D_rounded.ex) (pi_ix cx.K (pi_lst (pa_c (pi_glob cx.mg (glo_glo T.m_ratio_of)) (pa_c (pi_glob cx.mg (glo_glo T.m_rounded)) pa_0))) (pi_var 0)) (pa_c (pi_var 1) (pa_c (pi_var 2) pa_0)))))) (ss_one (s_ret pi_bl)))) (fun _ _ _ => (ss_one (s_ret pi_bl))) (by intros; simp [sRet, R.toS, cC]))))
theorem sc_law : FnScope ["script", "draws", "turn", "bad", "rows", "one", "row"] ["script"] (defScope s_law) := ⟨rfl, rfl, rfl, by decide +kernel, rfl, by decide +kernel, by decide +kernel⟩
theorem R_law (T : Txt P c) {fd : FuncData} {ad : Addr} (F : FunD c.K "law" "law" (defArgs s_law) (defBody s_law) (defScope s_law) [] [] ad fd) (D__law_draws : DG P w base c 9 "_law_draws" ["script"] f__law_draws) (D__law_are_ratios_due : DG P w base c 9 "_law_are_ratios_due" ["draws"] f__law_are_ratios_due) (D__law_is_rounded : DG P w base c 9 "_law_is_rounded" ["draws"] f__law_is_rounded) (D__law_is_compared : DG P w base c 9 "_law_is_compared" ["draws"] f__law_is_compared) (D__law_are_words_due : DG P w base c 9 "_law_are_words_due" ["draws"] f__law_are_words_due) (D__law_is_refused : DG P w base c 9 "_law_is_refused" ["which", "one", "two"] f__law_is_refused) (D_compare_values : DG P w base c 9 "compare_values" ["one", "other"] f_compare_values) (D_ratio_of : DG P w base c 9 "ratio_of" ["n", "d"] f_ratio_of) : FnOk P w c.K c.mg base (L2.CX P w) (2 * (9 + 1)) ad fd ["script"] (spI c f_law) :=
  mkFnOk (N := ["script", "draws", "turn", "bad", "rows", "one", "row"]) (ps := ["script"]) F sc_law (fun cdv A outer s H E cx pw => (ss_cons (s_set (i := 1) cx.nd (p_call cx D__law_draws (pa_c (pi_var 0) pa_0))) (ss_cons (s_for pw cx.calm (i_rng1 cx.mg T.n_range (pa_c pi_int pa_0)) (g_nm (i := 2) cx.nd) (ss_one (s_if ((pw_on (pt_n (pt_v cx.K (p_call cx D__law_are_ratios_due (pa_c (pi_var 1) pa_0)))) (pw_on (pt_n (pt_v cx.K (p_call cx D__law_is_rounded (pa_c (pi_var 1) pa_0)))) (pw_on (pt_n (pt_v cx.K (p_call cx D__law_is_compared (pa_c (pi_var 1) pa_0)))) (pw_o1 (pt_n (pt_v cx.K (p_call cx D__law_are_words_due (pa_c (pi_var 1) pa_0)))))))).pt) (ss_one (s_ret pi_bl)) ss_nil))) (ss_cons (s_set (i := 3) cx.nd (pi_lst (pa_c (pi_tup (pa_c pi_int (pa_c pi_int (pa_c pi_int pa_0)))) (pa_c (pi_tup (pa_c pi_int (pa_c pi_bl (pa_c pi_int pa_0)))) (pa_c (pi_tup (pa_c pi_int (pa_c pi_int (pa_c pi_bl pa_0)))) (pa_c (pi_tup (pa_c pi_int (pa_c pi_non (pa_c pi_int pa_0)))) (pa_c (pi_tup (pa_c pi_int (pa_c (pi_tup (pa_c pi_int (pa_c pi_int pa_0))) (pa_c pi_str pa_0)))) (pa_c (pi_tup (pa_c pi_int (pa_c (pi_tup (pa_c pi_int (pa_c pi_int pa_0))) (pa_c pi_str pa_0)))) (pa_c (pi_tup (pa_c pi_int (pa_c (pi_tup (pa_c pi_int (pa_c pi_int pa_0))) (pa_c pi_str pa_0)))) (pa_c (pi_tup (pa_c pi_int (pa_c (pi_tup (pa_c pi_str (pa_c (pi_tup (pa_c pi_int (pa_c pi_int pa_0))) pa_0))) (pa_c (pi_tup (pa_c pi_str (pa_c (pi_tup (pa_c pi_int (pa_c pi_int pa_0))) pa_0))) pa_0)))) (pa_c (pi_tup (pa_c pi_int (pa_c pi_int (pa_c (pi_tup (pa_c pi_str (pa_c (pi_tup (pa_c pi_int (pa_c pi_int pa_0))) pa_0))) pa_0)))) pa_0))))))))))) (ss_cons (s_if (pt_cmp (o_ne cx.K cx.units64) (pi_lc (own := [("one", 5)]) (ws := [5]) false ["script", "draws", "turn", "bad", "rows", "one", "row"] (defScope s_law) cx (i_seq cx.K (pi_var 3)) (by decide +kernel) (by decide) (fun _ cx ⟨_, _, _, _, _, e⟩ => by subst e; exact ⟨(g_nm (i := 5) cx.nd), (pts_1 (pt_n (pt_v cx.K (p_call cx D__law_is_refused (pa_c (pi_ix cx.K (pi_var 5) pi_int) (pa_c (pi_ix cx.K (pi_var 5) pi_int) (pa_c (pi_ix cx.K (pi_var 5) pi_int) pa_0))))))), (pi_var 5)⟩)) (pi_lst pa_0)) (ss_one (s_ret pi_bl)) ss_nil) (ss_cons (s_set (i := 4) cx.nd (pi_lst (pa_c (pi_tup (pa_c (pi_tup (pa_c pi_int (pa_c pi_int pa_0))) (pa_c (pi_tup (pa_c pi_int (pa_c pi_int pa_0))) (pa_c (pi_un o_neg pi_int) pa_0)))) (pa_c (pi_tup (pa_c (pi_tup (pa_c (pi_un o_neg pi_int) (pa_c pi_int pa_0))) (pa_c (pi_tup (pa_c (pi_un o_neg pi_int) (pa_c pi_int pa_0))) (pa_c pi_int pa_0)))) (pa_c (pi_tup (pa_c (pi_tup (pa_c pi_int (pa_c pi_int pa_0))) (pa_c (pi_tup (pa_c pi_int (pa_c pi_int pa_0))) (pa_c pi_int pa_0)))) (pa_c (pi_tup (pa_c (pi_tup (pa_c pi_int (pa_c pi_int pa_0))) (pa_c (pi_tup (pa_c pi_int (pa_c pi_int pa_0))) (pa_c pi_int pa_0)))) pa_0)))))) (ss_one (s_ret (pi_and cx.K (pi_cmp (o_eq cx.K cx.units64) (pi_lc (own := [("row", 6)]) (ws := [6]) false ["script", "draws", "turn", "bad", "rows", "one", "row"] (defScope s_law) cx (i_seq cx.K (pi_var 4)) (by decide +kernel) (by decide) (fun _ cx ⟨_, _, _, _, _, e⟩ => by subst e; exact ⟨(g_nm (i := 6) cx.nd), (pts_1 (pt_cmp (o_ne cx.K cx.units64) (p_call cx D_compare_values (pa_c (pi_tup (pa_c pi_str (pa_c (pi_ix cx.K (pi_var 6) pi_int) pa_0))) (pa_c (pi_tup (pa_c pi_str (pa_c (pi_ix cx.K (pi_var 6) pi_int) pa_0))) pa_0))) (pi_ix cx.K (pi_var 6) pi_int))), (pi_var 6)⟩)) (pi_lst pa_0)) (pi_one (pi_cmp (o_eq cx.K cx.units64) (p_call cx D_ratio_of (pa_c pi_int (pa_c (pi_un o_neg pi_int) pa_0))) (pi_tup (pa_c (pi_un o_neg pi_int) (pa_c pi_int pa_0))))))))))))))
end
end K14
end
section
set_option maxRecDepth 100000
set_option autoImplicit false
set_option exponentiation.threshold 3000
namespace K14
open PySem PySem.Spec PyProof.Rows L2 Pi
theorem check_t (h : Hs) : f_check [.bl true] h = .ok .non h := by
  simp [f_check, mkFn1, b_check]
theorem check_f (h : Hs) : f_check [.bl false] h = .exc 0 none h := by
  simp [f_check, mkFn1, b_check]
theorem is_integer_int (i : Int) (h : Hs) : f_is_integer [.int i] h = .ok (.bl true) h := by
  simp [f_is_integer, mkFn1, b_is_integer]
theorem is_integer_bl (i : Bool) (h : Hs) : f_is_integer [.bl i] h = .ok (.bl false) h := by
  simp [f_is_integer, mkFn1, b_is_integer]
theorem is_integer_non (h : Hs) : f_is_integer [.non] h = .ok (.bl false) h := by
  simp [f_is_integer, mkFn1, b_is_integer]
/-! ### the greatest common part -/
theorem mod_half {b r : Nat} (hr : 0 < r) (hb : r < b) : b % r < (b + 1) / 2 := by
  have h1 := Nat.mod_lt b hr
  by_cases h2 : r ≤ (b + 1) / 2
  · omega
  · have : b % r = b - r := by
      rw [Nat.mod_eq_sub_mod (Nat.le_of_lt hb), Nat.mod_eq_of_lt (by omega)]
    omega
theorem gp_loop (h : Hs) : ∀ (k a b F : Nat), b < 2 ^ k → 2 * k + 2 ≤ F →
    cWhile F (tBl (cOp opGt (cVar 1) (cC (.int 0)))) (sPar 0 1 (cVar 1) (cOp opMod (cVar 0) (cVar 1))) [some (.int a), some (.int b)] h = .next [some (.int (Nat.gcd a b : Nat)), some (.int 0)] h
  | 0, a, b, F, hb, hF => by
    obtain ⟨F, rfl⟩ : ∃ F', F = F' + 1 := ⟨F - 1, by omega⟩
    have : b = 0 := by omega
    subst this
    simp [cWhile_succ]
  | k + 1, a, b, F, hb, hF => by
    obtain ⟨F, rfl⟩ : ∃ F', F = F' + 1 + 1 := ⟨F - 2, by omega⟩
    by_cases h0 : b = 0
    · subst h0
      simp [cWhile_succ]
    · have hp : 0 < b := Nat.pos_of_ne_zero h0
      have hpi : (0 : Int) < (b : Int) := by omega
      have e1 : ((a : Int) % (b : Int)) = ((a % b : Nat) : Int) := by simp
      rw [cWhile_succ]
      simp only [tBl_eq, cOp_eq, cVar_eq, cC_eq, bind_ok, List.getElem?_cons_succ, List.getElem?_cons_zero, opI2_eq, ofO_s, blB_ok, toS_ok, hpi, decide_true, cond_true, sPar_eq, opMod_int hpi, List.set_cons_zero, List.set_cons_succ, e1]
      by_cases h1 : a % b = 0
      · rw [cWhile_succ, h1]
        have : Nat.gcd a b = b := by rw [Nat.gcd_comm, Nat.gcd_rec, h1, Nat.gcd_zero_left]
        simp [this]
      · have hp1 : 0 < a % b := Nat.pos_of_ne_zero h1
        have hpi1 : (0 : Int) < ((a % b : Nat) : Int) := by omega
        have e2 : ((b : Int) % ((a % b : Nat) : Int)) = ((b % (a % b) : Nat) : Int) := by omega
        rw [cWhile_succ]
        simp only [tBl_eq, cOp_eq, cVar_eq, cC_eq, bind_ok, List.getElem?_cons_succ, List.getElem?_cons_zero, opI2_eq, ofO_s, blB_ok, toS_ok, hpi1, decide_true, cond_true, sPar_eq, opMod_int hpi1, List.set_cons_zero, List.set_cons_succ, e2]
        have hlt := Nat.mod_lt a hp
        have h2 := mod_half hp1 hlt
        have h3 : 2 ^ (k + 1) = 2 * 2 ^ k := by rw [Nat.pow_succ, Nat.mul_comm]
        rw [gp_loop h k (a % b) (b % (a % b)) F (by omega) (by omega)]
        congr 4
        rw [Nat.gcd_comm (a % b), ← Nat.gcd_rec, ← Nat.gcd_rec, Nat.gcd_comm]
theorem greatest_part_n (a b : Nat) (h : Hs) (hb : b < 2 ^ 1000) : f_greatest_part [.int a, .int b] h = .ok (.int (Nat.gcd a b : Nat)) h := by
  have e := gp_loop h 1000 a b fuelW hb (by decide)
  simp only [f_greatest_part, mkFn2, b_greatest_part, sSeq_eq]
  rw [show List.replicate (2 - 2) (none : Option D) = [] from rfl, e]
  simp
theorem greatest_part (a b : Int) (h : Hs) (ha : 0 ≤ a) (hb : 0 ≤ b) (hb2 : b.natAbs < 2 ^ 1000) : f_greatest_part [.int a, .int b] h = .ok (.int (Int.gcd a b : Nat)) h := by
  obtain ⟨m, rfl⟩ := Int.eq_ofNat_of_zero_le ha
  obtain ⟨n, rfl⟩ := Int.eq_ofNat_of_zero_le hb
  exact greatest_part_n m n h (by simpa using hb2)
/-- the same by a for of many turns -/
def st2 (p : Nat × Nat) : Nat × Nat := if p.2 = 0 then p else (p.2, p.1 % p.2)
def stN : Nat → Nat × Nat → Nat × Nat
  | 0, p => p
  | n + 1, p => stN n (st2 p)
theorem stN_0 : ∀ (n a : Nat), stN n (a, 0) = (a, 0)
  | 0, _ => rfl
  | n + 1, a => stN_0 n a
theorem stN_gcd : ∀ (k a b n : Nat), b < 2 ^ k → 2 * k + 2 ≤ n → stN n (a, b) = (Nat.gcd a b, 0)
  | 0, a, b, n, hb, hn => by
    have : b = 0 := by omega
    subst this
    rw [stN_0, Nat.gcd_zero_right]
  | k + 1, a, b, n, hb, hn => by
    obtain ⟨n, rfl⟩ : ∃ n', n = n' + 1 + 1 := ⟨n - 2, by omega⟩
    by_cases h0 : b = 0
    · subst h0
      rw [stN_0, Nat.gcd_zero_right]
    · have hp : 0 < b := Nat.pos_of_ne_zero h0
      show stN (n + 1) (st2 (a, b)) = _
      have e1 : st2 (a, b) = (b, a % b) := by simp [st2, h0]
      rw [e1]
      show stN n (st2 (b, a % b)) = _
      by_cases h1 : a % b = 0
      · have e2 : st2 (b, a % b) = (b, 0) := by simp [st2, h1]
        rw [e2, stN_0]
        have : Nat.gcd a b = b := by rw [Nat.gcd_comm, Nat.gcd_rec, h1, Nat.gcd_zero_left]
        rw [this]
      · have hp1 : 0 < a % b := Nat.pos_of_ne_zero h1
        have e2 : st2 (b, a % b) = (a % b, b % (a % b)) := by simp [st2, h1]
        have hlt := Nat.mod_lt a hp
        have h2 := mod_half hp1 hlt
        have h3 : 2 ^ (k + 1) = 2 * 2 ^ k := by rw [Nat.pow_succ, Nat.mul_comm]
        rw [e2, stN_gcd k (a % b) (b % (a % b)) n (by omega) (by omega), Nat.gcd_comm (a % b), ← Nat.gcd_rec, ← Nat.gcd_rec, Nat.gcd_comm]
def bCm : IS := sIf (tBl (cOp opGt (cVar 3) (cC (.int 0)))) (sPar 2 3 (cVar 3) (cOp opMod (cB opInt (aCons (cVar 2) aNil)) (cVar 3))) sNil
theorem common_loop (h : Hs) (x y : Option D) : ∀ (ds : List D) (a b : Nat) (t : Option D), ∃ t', cFor ds (gNm 4) bCm [x, y, some (.int a), some (.int b), t] h = .next [x, y, some (.int (stN ds.length (a, b)).1), some (.int (stN ds.length (a, b)).2), t'] h
  | [], a, b, t => ⟨t, rfl⟩
  | d :: ds, a, b, t => by
    rw [cFor_cons]
    by_cases h0 : b = 0
    · subst h0
      obtain ⟨t', e⟩ := common_loop h x y ds a 0 (some d)
      refine ⟨t', ?_⟩
      rw [List.length_cons]
      show _ = RS.next [x, y, some (.int (stN ds.length (a, 0)).1), some (.int (stN ds.length (a, 0)).2), t'] h
      rw [← e]
      simp [bCm]
    · have hp : 0 < b := Nat.pos_of_ne_zero h0
      have hpi : (0 : Int) < (b : Int) := by omega
      obtain ⟨t', e⟩ := common_loop h x y ds b (a % b) (some d)
      refine ⟨t', ?_⟩
      have e1 : st2 (a, b) = (b, a % b) := by simp [st2, h0]
      rw [List.length_cons]
      show _ = RS.next [x, y, some (.int (stN ds.length (st2 (a, b))).1), some (.int (stN ds.length (st2 (a, b))).2), t'] h
      rw [e1, ← e]
      simp [bCm, hp, opMod_int hpi]
theorem common (n d : Int) (h : Hs) (hd : d.natAbs < 2 ^ 1000) : f__law_common [.int n, .int d] h = .ok (.int (Int.gcd n d : Nat)) h := by
  obtain ⟨t', e⟩ := common_loop h (some (.int n)) (some (.int d)) (intsD 0 3000) n.natAbs d.natAbs none
  have hl : (intsD 0 3000).length = 3000 := by simp [intsD]
  rw [hl, stN_gcd 1000 _ _ _ hd (by decide)] at e
  simp only [f__law_common, mkFn2, b__law_common, sSeq_eq]
  simp [rgOk]
  have e' := e
  unfold bCm at e'
  rw [e']
  simp
  rfl
/-! ### least ratios -/
/-- n/d in least figures, its below above nought -/
def lst (n d : Int) : Int × Int := if 0 < d then (n / (Int.gcd n d : Nat), d / (Int.gcd n d : Nat)) else (-(n / (Int.gcd n d : Nat)), -(d / (Int.gcd n d : Nat)))
theorem gcd_pos {n d : Int} (hd : d ≠ 0) : (0 : Int) < (Int.gcd n d : Nat) := by
  have : 0 < Int.gcd n d := Int.gcd_pos_of_ne_zero_right n hd
  omega
theorem gcd_ok {n d : Int} (hd : d ≠ 0) (h2 : d.natAbs < 2 ^ 1000) : divOk (Int.gcd n d : Nat) = true := by
  refine divOk_of (gcd_pos hd) ?_
  have h1 : Int.gcd n d ≤ d.natAbs := Int.gcd_le_natAbs_right n hd
  show Int.gcd n d < 2 ^ 1000
  exact Nat.lt_of_le_of_lt h1 h2
theorem least (n d : Int) (h : Hs) (h0 : d ≠ 0) (hd : d.natAbs < 2 ^ 1000) : f__law_least [.int n, .int d] h = .ok (.tup [.int (lst n d).1, .int (lst n d).2]) h := by
  simp only [f__law_least, mkFn2, b__law_least, sSeq_eq]
  by_cases hp : 0 < d
  · simp [common n d h hd, opFdiv_int (gcd_ok h0 hd), hp, lst]
  · simp [common n d h hd, opFdiv_int (gcd_ok h0 hd), hp, lst]
theorem ratio_by (n d : Int) (h : Hs) (h0 : d ≠ 0) (hd : d.natAbs < 2 ^ 1000) : f_ratio_by [.int n, .int d] h = .ok (.tup [.int (lst n d).1, .int (lst n d).2]) h := by
  have e := greatest_part n.natAbs d.natAbs h (by omega) (by omega) (by simpa using hd)
  have e2 : Int.gcd (n.natAbs : Int) (d.natAbs : Int) = Int.gcd n d := by simp [Int.gcd]
  rw [e2] at e
  simp only [f_ratio_by, mkFn2, b_ratio_by, sSeq_eq]
  by_cases hp : 0 < d
  · simp [e, opFdiv_int (gcd_ok h0 hd), hp, lst]
  · have n1 : -n / (Int.gcd n d : Nat) = -(n / (Int.gcd n d : Nat)) := Int.neg_ediv_of_dvd (Int.gcd_dvd_left n d)
    have n2 : -d / (Int.gcd n d : Nat) = -(d / (Int.gcd n d : Nat)) := Int.neg_ediv_of_dvd (Int.gcd_dvd_right n d)
    simp [e, opFdiv_int (gcd_ok h0 hd), hp, lst, n1, n2]
theorem ratio_of (n d : Int) (h : Hs) (h0 : d ≠ 0) (hd : d.natAbs < 2 ^ 1000) : f_ratio_of [.int n, .int d] h = .ok (.tup [.int (lst n d).1, .int (lst n d).2]) h := by
  have h0' : (d == 0) = false := by simpa using h0
  simp [f_ratio_of, mkFn2, b_ratio_of, is_integer_int, h0', check_t, ratio_by n d h h0 hd]
theorem ratio_of_0 (n : Int) (h : Hs) : f_ratio_of [.int n, .int 0] h = .exc 0 none h := by
  simp [f_ratio_of, mkFn2, b_ratio_of, is_integer_int, check_f]
theorem ratio_of_b1 (n : Int) (b : Bool) (h : Hs) : f_ratio_of [.int n, .bl b] h = .exc 0 none h := by
  simp [f_ratio_of, mkFn2, b_ratio_of, is_integer_int, is_integer_bl, check_f]
theorem ratio_of_b2 (d : D) (b : Bool) (h : Hs) : f_ratio_of [.bl b, d] h = .exc 0 none h := by
  simp [f_ratio_of, mkFn2, b_ratio_of, is_integer_bl, check_f]
theorem ratio_of_n (d : D) (h : Hs) : f_ratio_of [.non, d] h = .exc 0 none h := by
  simp [f_ratio_of, mkFn2, b_ratio_of, is_integer_non, check_f]
/-- a ratio in least figures -/
def isR (n d : Int) : Bool := decide (0 < d) && decide (Int.gcd n d = 1)
theorem is_ratio (n d : Int) (h : Hs) (hd : d.natAbs < 2 ^ 1000) : f_is_ratio [.tup [.int n, .int d]] h = .ok (.bl (isR n d)) h := by
  simp only [f_is_ratio, mkFn1, b_is_ratio, sSeq_eq]
  by_cases hp : 0 < d
  · have e := greatest_part n.natAbs d h (by omega) (by omega) hd
    have e2 : Int.gcd (n.natAbs : Int) d = Int.gcd n d := by simp [Int.gcd]
    rw [e2] at e
    simp [e, hp, isR, goLc_cons', is_integer_int]
    by_cases q : Int.gcd n d = 1
    · simp [q]
    · have q2 : ((Int.gcd n d : Nat) : Int) ≠ 1 := by omega
      simp [q, q2]
  · simp [hp, isR, goLc_cons', is_integer_int]
abbrev sRatio : D := .str [114, 97, 116, 105, 111]
abbrev sMoney : D := .str [109, 111, 110, 101, 121]
abbrev sDay : D := .str [100, 97, 121]
theorem is_value_int (i : Int) (h : Hs) : f_is_value [.int i] h = .ok (.bl true) h := by
  simp [f_is_value, mkFn1, b_is_value]
theorem is_value_ratio (n d : Int) (h : Hs) (hd : d.natAbs < 2 ^ 1000) : f_is_value [.tup [sRatio, .tup [.int n, .int d]]] h = .ok (.bl (isR n d)) h := by
  simp [f_is_value, mkFn1, b_is_value, is_ratio n d h hd]
theorem opIn_tup (d : D) (ds : List D) (h : Hs) (h1 : okD d = true) (h2 : okD (.tup ds) = true) : opIn h d (.tup ds) = some (.bl (ds.any fun z => eqd z d)) := by
  show (if okD d && okD (.tup ds) then _ else _) = _
  rw [h1, h2]
  rfl
theorem is_value_money (i : Int) (h : Hs) : f_is_value [.tup [sMoney, .int i]] h = .ok (.bl true) h := by
  have q : opIn h sMoney (.tup [sMoney, sDay]) = some (.bl true) := opIn_tup _ _ h (by decide) (by decide)
  simp [f_is_value, mkFn1, b_is_value, q, is_integer_int]
theorem is_value_day (i : Int) (h : Hs) (h0 : 0 ≤ i) (h1 : i ≤ 200000) : f_is_value [.tup [sDay, .int i]] h = .ok (.bl true) h := by
  have q : opIn h sDay (.tup [sMoney, sDay]) = some (.bl true) := opIn_tup _ _ h (by decide) (by decide)
  simp [f_is_value, mkFn1, b_is_value, q, is_integer_int, f_is_day_number, b_is_day_number, h0, h1]
/-! ### comparing -/
def sgnC (l r : Int) : Int := (if r < l then 1 else 0) - (if l < r then 1 else 0)
theorem compared_int (a b : Int) (h : Hs) : f_compared_by [.int a, .int b] h = .ok (.int (sgnC a b)) h := by
  simp [f_compared_by, mkFn2, b_compared_by, sgnC]
theorem compared_ratio (a b x y : Int) (h : Hs) (h1 : mulOk a y = true) (h2 : mulOk x b = true) : f_compared_by [.tup [sRatio, .tup [.int a, .int b]], .tup [sRatio, .tup [.int x, .int y]]] h = .ok (.int (sgnC (a * y) (x * b))) h := by
  simp [f_compared_by, mkFn2, b_compared_by, sgnC, opMul_int h1, opMul_int h2]
theorem compared_money (a b : Int) (h : Hs) : f_compared_by [.tup [sMoney, .int a], .tup [sMoney, .int b]] h = .ok (.int (sgnC a b)) h := by
  simp [f_compared_by, mkFn2, b_compared_by, sgnC]
theorem compared_day (a b : Int) (h : Hs) : f_compared_by [.tup [sDay, .int a], .tup [sDay, .int b]] h = .ok (.int (sgnC a b)) h := by
  simp [f_compared_by, mkFn2, b_compared_by, sgnC]
theorem in_cmp (h : Hs) : opIn h sRatio (.tup [sRatio, sMoney, sDay]) = some (.bl true) ∧ opIn h sMoney (.tup [sRatio, sMoney, sDay]) = some (.bl true) ∧ opIn h sDay (.tup [sRatio, sMoney, sDay]) = some (.bl true) :=
  ⟨opIn_tup _ _ h (by decide) (by decide), opIn_tup _ _ h (by decide) (by decide), opIn_tup _ _ h (by decide) (by decide)⟩
theorem is_integer_tup (ds : List D) (h : Hs) : f_is_integer [.tup ds] h = .ok (.bl false) h := by
  simp [f_is_integer, mkFn1, b_is_integer]
theorem compare_int (a b : Int) (h : Hs) : f_compare_values [.int a, .int b] h = .ok (.int (sgnC a b)) h := by
  simp [f_compare_values, mkFn2, b_compare_values, is_value_int, is_integer_int, check_t, compared_int]
theorem compare_money (a b : Int) (h : Hs) : f_compare_values [.tup [sMoney, .int a], .tup [sMoney, .int b]] h = .ok (.int (sgnC a b)) h := by
  simp [f_compare_values, mkFn2, b_compare_values, is_value_money, is_integer_tup, check_t, compared_money, in_cmp h]
theorem compare_day (a b : Int) (h : Hs) (h0 : 0 ≤ a) (h1 : a ≤ 200000) (h2 : 0 ≤ b) (h3 : b ≤ 200000) : f_compare_values [.tup [sDay, .int a], .tup [sDay, .int b]] h = .ok (.int (sgnC a b)) h := by
  simp [f_compare_values, mkFn2, b_compare_values, is_value_day _ h h0 h1, is_value_day _ h h2 h3, is_integer_tup, check_t, compared_day, in_cmp h]
theorem compare_ratio (a b x y : Int) (h : Hs) (h1 : isR a b = true) (h2 : isR x y = true) (ha : a.natAbs < 2 ^ 1000) (hb : b.natAbs < 2 ^ 1000) (hx : x.natAbs < 2 ^ 1000) (hy : y.natAbs < 2 ^ 1000) :
    f_compare_values [.tup [sRatio, .tup [.int a, .int b]], .tup [sRatio, .tup [.int x, .int y]]] h = .ok (.int (sgnC (a * y) (x * b))) h := by
  simp [f_compare_values, mkFn2, b_compare_values, is_value_ratio _ _ h hb, is_value_ratio _ _ h hy, h1, h2, is_integer_tup, check_t, compared_ratio a b x y h (mulOk_of ha hy) (mulOk_of hx hb), in_cmp h]
theorem compare_refused (a b : Int) (y : D) (h : Hs) (hb : b.natAbs < 2 ^ 1000) (h1 : isR a b = false) : f_compare_values [.tup [sRatio, .tup [.int a, .int b]], y] h = .exc 0 none h := by
  simp [f_compare_values, mkFn2, b_compare_values, is_value_ratio _ _ h hb, h1, check_f]
theorem compare_mixed (i a b : Int) (h : Hs) (hb : b.natAbs < 2 ^ 1000) (h1 : isR a b = true) : f_compare_values [.int i, .tup [sRatio, .tup [.int a, .int b]]] h = .exc 0 none h := by
  simp [f_compare_values, mkFn2, b_compare_values, is_value_int, is_value_ratio _ _ h hb, h1, check_t, check_f, is_integer_int, is_integer_tup]
/-! ### rounding -/
abbrev sDown : D := .str [100, 111, 119, 110]
abbrev sUp : D := .str [117, 112]
abbrev sNear : D := .str [110, 101, 97, 114]
def nearest (n d : Int) : Int := if 0 ≤ n then (2 * (n.natAbs : Int) + d) / (2 * d) else -((2 * (n.natAbs : Int) + d) / (2 * d))
/-- a number of the law's kind -/
def Sm (i : Int) : Prop := i.natAbs < 2 ^ 200
theorem Sm.b {i : Int} (h : Sm i) : i.natAbs < 2 ^ 1000 := by unfold Sm at h; omega
theorem Sm.of {i : Int} {k : Nat} (h : i.natAbs < k) (hk : k ≤ 2 ^ 200) : Sm i := Nat.lt_of_lt_of_le h hk
theorem isR_pos {n d : Int} (h : isR n d = true) : 0 < d := of_decide_eq_true (Bool.and_eq_true_iff.mp h).1
theorem in_ways (h : Hs) : opIn h sDown (.tup [sDown, sUp, sNear]) = some (.bl true) ∧ opIn h sUp (.tup [sDown, sUp, sNear]) = some (.bl true) ∧ opIn h sNear (.tup [sDown, sUp, sNear]) = some (.bl true) :=
  ⟨opIn_tup _ _ h (by decide) (by decide), opIn_tup _ _ h (by decide) (by decide), opIn_tup _ _ h (by decide) (by decide)⟩
theorem rounded_down (n d : Int) (h : Hs) (h1 : isR n d = true) (hd : Sm d) : f_rounded [.tup [.int n, .int d], sDown] h = .ok (.int (n / d)) h := by
  have q := divOk_of (isR_pos h1) hd.b
  simp [f_rounded, mkFn2, b_rounded, is_ratio n d h hd.b, h1, in_ways h, check_t, f_rounded_by, b_rounded_by, opFdiv_int q]
theorem rounded_up (n d : Int) (h : Hs) (h1 : isR n d = true) (hd : Sm d) : f_rounded [.tup [.int n, .int d], sUp] h = .ok (.int (-(-n / d))) h := by
  have q := divOk_of (isR_pos h1) hd.b
  simp [f_rounded, mkFn2, b_rounded, is_ratio n d h hd.b, h1, in_ways h, check_t, f_rounded_by, b_rounded_by, opFdiv_int q]
theorem rounded_near (n d : Int) (h : Hs) (h1 : isR n d = true) (hd : Sm d) (hn : Sm n) : f_rounded [.tup [.int n, .int d], sNear] h = .ok (.int (nearest n d)) h := by
  have hp := isR_pos h1
  have q : divOk (2 * d) = true := divOk_of (by omega) (by unfold Sm at hd; omega)
  have q1 : mulOk 2 (n.natAbs : Int) = true := mulOk_of (by decide) (by simpa using hn.b)
  have q2 : mulOk 2 d = true := mulOk_of (by decide) hd.b
  by_cases h0 : 0 ≤ n
  · simp [f_rounded, mkFn2, b_rounded, is_ratio n d h hd.b, h1, in_ways h, check_t, f_rounded_by, b_rounded_by, opFdiv_int q, opMul_int q1, opMul_int q2, nearest, h0]
  · simp [f_rounded, mkFn2, b_rounded, is_ratio n d h hd.b, h1, in_ways h, check_t, f_rounded_by, b_rounded_by, opFdiv_int q, opMul_int q1, opMul_int q2, nearest, h0]
theorem rounded_refused (n d : Int) (w : D) (h : Hs) (hd : d.natAbs < 2 ^ 1000) (h1 : isR n d = false) : f_rounded [.tup [.int n, .int d], w] h = .exc 0 none h := by
  simp [f_rounded, mkFn2, b_rounded, is_ratio n d h hd, h1, check_f]
theorem rounded_far (n d : Int) (h : Hs) (hd : d.natAbs < 2 ^ 1000) (h1 : isR n d = true) : f_rounded [.tup [.int n, .int d], .str [102, 97, 114]] h = .exc 0 none h := by
  have q : opIn h (.str [102, 97, 114]) (.tup [sDown, sUp, sNear]) = some (.bl false) := opIn_tup _ _ h (by decide) (by decide)
  simp [f_rounded, mkFn2, b_rounded, is_ratio n d h hd, h1, q, check_f]
end K14
end
section
set_option maxRecDepth 100000
set_option autoImplicit false
set_option exponentiation.threshold 3000
/-! figures -/
namespace K14
open PySem PySem.Spec PyProof.Rows L2 Pi
def dgs (m : Nat) : List Nat := (Nat.toDigits 10 m).map Char.toNat
theorem digitChar_nat {k : Nat} (h : k < 10) : (Nat.digitChar k).toNat = 48 + k := by
  have : k = 0 ∨ k = 1 ∨ k = 2 ∨ k = 3 ∨ k = 4 ∨ k = 5 ∨ k = 6 ∨ k = 7 ∨ k = 8 ∨ k = 9 := by omega
  rcases this with rfl | rfl | rfl | rfl | rfl | rfl | rfl | rfl | rfl | rfl <;> decide
theorem dgs_lt {m : Nat} (h : m < 10) : dgs m = [48 + m] := by
  unfold dgs
  rw [Nat.toDigits_of_lt_base h, List.map_cons, digitChar_nat h]
  rfl
theorem dgs_ge {m : Nat} (h : 10 ≤ m) : dgs m = dgs (m / 10) ++ [48 + m % 10] := by
  unfold dgs
  rw [Nat.toDigits_of_base_le (by decide) h, List.map_append, List.map_cons, digitChar_nat (Nat.mod_lt _ (by decide))]
  rfl
theorem dgs_len {m k : Nat} (hk : 0 < k) (h : m < 10 ^ k) : (dgs m).length ≤ k := by
  unfold dgs
  rw [List.length_map]
  exact (Nat.length_toDigits_le_iff (by decide) hk).mpr h
theorem dgs_ok : ∀ (m : Nat), ∀ c ∈ dgs m, 48 ≤ c ∧ c ≤ 57
  | m, c, hc => by
    by_cases h : m < 10
    · rw [dgs_lt h] at hc
      have : c = 48 + m := by simpa using hc
      omega
    · rw [dgs_ge (by omega)] at hc
      rcases List.mem_append.mp hc with hc | hc
      · exact dgs_ok (m / 10) c hc
      · have : c = 48 + m % 10 := by simpa using hc
        omega
  termination_by m => m
  decreasing_by omega
theorem dgs_first : ∀ (m : Nat), 0 < m → ∃ c r, dgs m = c :: r ∧ 49 ≤ c ∧ c ≤ 57
  | m, h0 => by
    by_cases h : m < 10
    · exact ⟨48 + m, [], dgs_lt h, by omega, by omega⟩
    · obtain ⟨c, r, e, h1, h2⟩ := dgs_first (m / 10) (by omega)
      exact ⟨c, r ++ [48 + m % 10], by rw [dgs_ge (by omega), e]; rfl, h1, h2⟩
  termination_by m => m
  decreasing_by omega
/-- the value of figures -/
def vlF (a : Nat) (cs : List Nat) : Nat := cs.foldl (fun a c => a * 10 + (c - 48)) a
theorem vlF_dgs : ∀ (m : Nat), vlF 0 (dgs m) = m
  | m => by
    by_cases h : m < 10
    · rw [dgs_lt h]
      show 0 * 10 + (48 + m - 48) = m
      omega
    · rw [dgs_ge (by omega)]
      unfold vlF
      rw [List.foldl_append]
      have ih := vlF_dgs (m / 10)
      unfold vlF at ih
      rw [ih]
      show m / 10 * 10 + (48 + m % 10 - 48) = m
      omega
  termination_by m => m
  decreasing_by omega
def padD : Nat → Nat → List Nat
  | 0, _ => []
  | k + 1, m => padD k (m / 10) ++ [48 + m % 10]
theorem padD_0 : ∀ k, padD k 0 = List.replicate k 48
  | 0 => rfl
  | k + 1 => by
    show padD k (0 / 10) ++ [48 + 0 % 10] = _
    rw [Nat.zero_div, padD_0 k, List.replicate_succ']
theorem padD_eq : ∀ (k m : Nat), 0 < k → m < 10 ^ k → List.replicate (k - (dgs m).length) 48 ++ dgs m = padD k m
  | k + 1, m, _, h => by
    by_cases h1 : m < 10
    · rw [dgs_lt h1]
      show List.replicate k 48 ++ [48 + m] = padD k (m / 10) ++ [48 + m % 10]
      rw [Nat.div_eq_of_lt h1, Nat.mod_eq_of_lt h1, padD_0]
    · have hk : 0 < k := by
        rcases Nat.eq_zero_or_pos k with rfl | hk
        · omega
        · exact hk
      have h3 : 10 ^ (k + 1) = 10 ^ k * 10 := Nat.pow_succ ..
      rw [dgs_ge (by omega), List.length_append, List.length_singleton, Nat.add_sub_add_right, ← List.append_assoc, padD_eq k (m / 10) hk (by omega)]
      rfl
theorem padD_len : ∀ k m, (padD k m).length = k
  | 0, _ => rfl
  | k + 1, m => by
    show (padD k (m / 10) ++ [48 + m % 10]).length = _
    rw [List.length_append, padD_len k]
    rfl
theorem dgs_split : ∀ (k q r : Nat), 0 < q → r < 10 ^ k → dgs (q * 10 ^ k + r) = dgs q ++ padD k r
  | 0, q, r, _, h => by
    have : r = 0 := by omega
    subst this
    show dgs (q * 1 + 0) = dgs q ++ []
    rw [List.append_nil, Nat.mul_one, Nat.add_zero]
  | k + 1, q, r, hq, h => by
    have h3 : 10 ^ (k + 1) = 10 ^ k * 10 := Nat.pow_succ ..
    have h4 : q * 10 ^ (k + 1) = (q * 10 ^ k) * 10 := by rw [h3, Nat.mul_assoc]
    have h5 : 0 < q * 10 ^ k := Nat.mul_pos hq (Nat.pow_pos (by decide))
    rw [dgs_ge (by omega)]
    have e1 : (q * 10 ^ (k + 1) + r) / 10 = q * 10 ^ k + r / 10 := by omega
    have e2 : (q * 10 ^ (k + 1) + r) % 10 = r % 10 := by omega
    rw [e1, e2, dgs_split k q (r / 10) hq (by omega), List.append_assoc]
    rfl
theorem figs_nat (m : Nat) : figs (m : Int) = dgs m := by
  show ((toString ((m : Nat) : Int)).toList.map Char.toNat) = _
  have : toString ((m : Nat) : Int) = Nat.repr m := rfl
  rw [this, Nat.toList_repr]
  rfl
theorem figs_neg (m : Nat) (h : 0 < m) : figs (-(m : Int)) = 45 :: dgs m := by
  obtain ⟨k, rfl⟩ : ∃ k, m = k + 1 := ⟨m - 1, by omega⟩
  show ((toString (-((k + 1 : Nat) : Int))).toList.map Char.toNat) = _
  have : toString (-((k + 1 : Nat) : Int)) = "-" ++ Nat.repr (k + 1) := rfl
  rw [this, String.toList_append, List.map_append, Nat.toList_repr]
  rfl
/-- figures by the sign and the figures of what is left of it -/
theorem figs_eq (n : Int) : figs n = (if n < 0 then [45] else []) ++ dgs n.natAbs := by
  by_cases h : n < 0
  · have e : n = -((n.natAbs : Nat) : Int) := by omega
    rw [if_pos h]
    conv => lhs; rw [e]
    exact figs_neg _ (by omega)
  · have e : n = ((n.natAbs : Nat) : Int) := by omega
    rw [if_neg h]
    conv => lhs; rw [e]
    exact figs_nat _
end K14
end
section
set_option maxRecDepth 100000
set_option autoImplicit false
set_option exponentiation.threshold 3000
/-! figures_of, write_value -/
namespace K14
open PySem PySem.Spec PyProof.Rows L2 Pi
theorem log_ok {i : Int} (h : i.natAbs < 2 ^ 1000) : i.natAbs.log2 < 1920 := Nat.lt_of_lt_of_le (log2_lt (by decide) h) (by decide)
theorem dgs_len400 {m : Nat} (h : m < 2 ^ 1000) : (dgs m).length ≤ 400 := dgs_len (by decide) (Nat.lt_of_lt_of_le h (by decide))
theorem padded_ok (m k : Nat) (h : Hs) (hk : 0 < k) (hk2 : k ≤ 400) (hm : m < 10 ^ k) (hm2 : m < 2 ^ 1000) : f_padded [.int m, .int k] h = .ok (.str (padD k m)) h := by
  have h1 : ((m : Int)).natAbs.log2 < 1920 := log_ok (by simpa using hm2)
  have h2 : (figs (m : Int)) = dgs m := figs_nat m
  have h3 := dgs_len hk hm
  have h4 : (figs (m : Int)).length ≤ LIM := by rw [h2]; show _ ≤ 16777216; omega
  have e1 : ((k : Int) - ((figs (m : Int)).length : Int)).toNat = k - (dgs m).length := by rw [h2]; omega
  have h5 : opMul h (.str [48]) (.int ((k : Int) - ((figs (m : Int)).length : Int))) = some (.str (List.replicate (k - (dgs m).length) 48)) := by
    rw [opMul_str1 (by rw [h2]; omega) (by rw [h2]; omega) (by rw [e1]; show _ ≤ 16777216; omega), e1]
  have h6 : opAdd h (.str (List.replicate (k - (dgs m).length) 48)) (.str (figs (m : Int))) = some (.str (padD k m)) := by
    rw [opAdd_str (by rw [h2, List.length_replicate]; show _ ≤ 16777216; omega), h2, padD_eq k m hk hm]
  simp [f_padded, mkFn2, b_padded, opStr_int h1, opLen_str h4, h5, h6]
abbrev LG : Nat := 1000000000000000000
def wB : IS := sSeq (sExpr (cMt isLs opAppend (cVar 1) (aCons (cCall f_padded (aCons (cOp opMod (cVar 2) (cC (.int 1000000000000000000))) (aCons (cC (.int 18)) aNil))) aNil))) (sAug opFdiv 2 (cC (.int 1000000000000000000)))
theorem fig_loop (h : Hs) (x : Option D) : ∀ (k left F : Nat) (ss : List (List Nat)), left < LG ^ (k + 1) → left < 2 ^ 1000 → k + 1 ≤ F → ss.length + k ≤ 1000 → (∀ s ∈ ss, s.length = 18) →
    ∃ (left' : Nat) (ss' : List (List Nat)), cWhile F (tBl (cOp opGe (cVar 2) (cC (.int 1000000000000000000)))) wB [x, some (.ref h.length), some (.int left)] (h ++ [.lst (ss.map D.str)]) = .next [x, some (.ref h.length), some (.int (left' : Nat))] (h ++ [.lst (ss'.map D.str)]) ∧
      dgs left ++ ss.reverse.flatten = dgs left' ++ ss'.reverse.flatten ∧ left' < 2 ^ 1000 ∧ ss'.length ≤ 1000 ∧ (∀ s ∈ ss', s.length = 18)
  | k, left, F, ss, hb, hb2, hF, hs, hs2 => by
    obtain ⟨F, rfl⟩ : ∃ F', F = F' + 1 := ⟨F - 1, by omega⟩
    have hLL : LG = 1000000000000000000 := rfl
    have hmod : left % LG < LG := Nat.mod_lt _ (by rw [hLL]; omega)
    by_cases hL : left < LG
    · refine ⟨left, ss, ?_, rfl, hb2, by omega, hs2⟩
      have hLi : ¬ ((1000000000000000000 : Int) ≤ (left : Int)) := by omega
      simp [cWhile_succ, hLi]
    · cases k with
      | zero => exact absurd hb (by simpa using hL)
      | succ k =>
        have hLi : ((1000000000000000000 : Int) ≤ (left : Int)) := by omega
        have e1 : ((left : Int) % 1000000000000000000) = ((left % LG : Nat) : Int) := by simp
        have e2 : ((left : Int) / 1000000000000000000) = ((left / LG : Nat) : Int) := by simp
        have hqr : left / LG * 10 ^ 18 + left % LG = left := by have := Nat.div_add_mod left LG; rw [hLL] at this ⊢; omega
        have hq : 0 < left / LG := Nat.div_pos (by omega) (by omega)
        have hq2 : left / LG < LG ^ (k + 1) := by
          rw [Nat.div_lt_iff_lt_mul (by omega)]
          rw [Nat.pow_succ] at hb
          exact hb
        have hq3 : left / LG < 2 ^ 1000 := Nat.lt_of_le_of_lt (Nat.div_le_self _ _) hb2
        generalize left % LG = r at *
        generalize left / LG = q at *
        have hp' : f_padded [.int (r : Int), .int 18] (h ++ [.lst (ss.map D.str)]) = .ok (.str (padD 18 r)) (h ++ [.lst (ss.map D.str)]) := padded_ok r 18 (h ++ [.lst (ss.map D.str)]) (by decide) (by decide) (by omega) (by omega)
        have hsp := dgs_split 18 q r hq (by omega)
        rw [hqr] at hsp
        have hpl := padD_len 18 r
        generalize padD 18 r = pd at *
        have ha := app_last h (ss.map D.str) (.str pd) (by rw [List.length_map]; show _ < 16777216; omega)
        have ha2 : ss.map D.str ++ [.str pd] = (ss ++ [pd]).map D.str := by simp
        rw [ha2] at ha
        have hd : divOk 1000000000000000000 = true := divOk_of (by omega) (by omega)
        obtain ⟨left', ss', e, e3, e4, e5, e6⟩ := fig_loop h x k q F (ss ++ [pd]) hq2 hq3 (by omega) (by rw [List.length_append]; simp; omega) (by
            intro s hs'
            rcases List.mem_append.mp hs' with hs' | hs'
            · exact hs2 s hs'
            · rw [List.mem_singleton.mp hs']
              exact hpl)
        refine ⟨left', ss', ?_, ?_, e4, e5, e6⟩
        · rw [← e, cWhile_succ]
          generalize (ss ++ [pd]).map D.str = l2 at *
          simp [wB, hLi, opMod_int, opFdiv_int hd, isLs_last, e1, e2, hp', ha]
        · rw [← e3, List.reverse_append, hsp]
          simp
theorem flat_len {k : Nat} : ∀ ss : List (List Nat), (∀ s ∈ ss, s.length = k) → (ss.map List.length).sum = ss.length * k
  | [], _ => by simp
  | s :: ss, h => by
    rw [List.map_cons, List.sum_cons, flat_len ss fun t ht => h t (List.mem_cons_of_mem _ ht), h s List.mem_cons_self, List.length_cons, Nat.succ_mul, Nat.add_comm]
theorem figures_of (n : Int) (h : Hs) (hn : n.natAbs < 2 ^ 1000) : ∃ x, f_figures_of [.int n] h = .ok (.str (figs n)) (h ++ [x]) := by
  obtain ⟨left, ss, e, e2, e3, e4, e5⟩ := fig_loop h (some (.int n)) 20 n.natAbs fuelW [] (Nat.lt_of_lt_of_le hn (by decide)) hn (by decide) (by decide) (by simp)
  refine ⟨.lst (ss.map D.str), ?_⟩
  have e' := e
  unfold wB at e'
  rw [List.map_nil] at e'
  have h1 : ((left : Int)).natAbs.log2 < 1920 := log_ok (by simpa using e3)
  have h2 : (figs (left : Int)) = dgs left := figs_nat left
  have h3 := dgs_len400 e3
  have h4 : opMul (h ++ [.lst (ss.map D.str)]) (.str [45]) (.int (if n < 0 then 1 else 0)) = some (.str (if n < 0 then [45] else [])) := by
    by_cases h0 : n < 0
    · rw [if_pos h0, if_pos h0, opMul_str1 (by decide) (by decide) (by decide)]
      rfl
    · rw [if_neg h0, if_neg h0, opMul_str1 (by decide) (by decide) (by decide)]
      rfl
  have hl : (if n < 0 then [45] else [] : List Nat).length ≤ 1 := by split <;> simp
  have h5 : opAdd (h ++ [.lst (ss.map D.str)]) (.str (if n < 0 then [45] else [])) (.str (figs (left : Int))) = some (.str ((if n < 0 then [45] else []) ++ dgs left)) := by
    rw [opAdd_str (by rw [h2]; show _ ≤ 16777216; omega), h2]
  have hf : ss.reverse.flatten.length = ss.length * 18 := by
    rw [List.length_flatten, flat_len _ (fun s hs => e5 s (List.mem_reverse.mp hs)), List.length_reverse]
  have h6 : opJoin (h ++ [.lst (ss.map D.str)]) (.str []) [.lst (ss.map D.str).reverse] = .ok (.str ss.reverse.flatten) (h ++ [.lst (ss.map D.str)]) := by
    unfold opJoin
    rw [← List.map_reverse]
    simp only [lk_lst', strsOf_map, joinL_nil]
    rw [if_pos]
    unfold sumLen
    rw [flat_len _ (fun s hs => e5 s (List.mem_reverse.mp hs)), List.length_reverse]
    show _ ≤ 16777216
    simp
    omega
  have h7 : opAdd (h ++ [.lst (ss.map D.str)]) (.str ((if n < 0 then [45] else []) ++ dgs left)) (.str ss.reverse.flatten) = some (.str (figs n)) := by
    rw [opAdd_str (by rw [List.length_append, hf]; show _ ≤ 16777216; omega), figs_eq n, List.append_assoc, ← e2]
    simp
  simp only [f_figures_of, mkFn1, b_figures_of, sSeq_eq]
  have r0 : opRev (h ++ [.lst (ss.map D.str)]) (.ref h.length) = some (.lst (ss.map D.str).reverse) := by unfold opRev; rw [lk_last]
  simp [e', opStr_int h1, h4, h5, h6, h7, isSt, r0]
/-- what is written of a ratio -/
theorem write_ratio (n d : Int) (h : Hs) (h1 : isR n d = true) (hn : n.natAbs < 2 ^ 1000) (hd : d.natAbs < 2 ^ 1000) : ∃ x y, f_write_value [.tup [sRatio, .tup [.int n, .int d]]] h = .ok (.str (figs n ++ 47 :: figs d)) (h ++ [x, y]) := by
  obtain ⟨x, ex⟩ := figures_of n h hn
  obtain ⟨y, ey⟩ := figures_of d (h ++ [x]) hd
  refine ⟨x, y, ?_⟩
  have l1 : (figs n).length ≤ 401 := by
    rw [figs_eq]
    have := dgs_len400 hn
    have hl : (if n < 0 then [45] else [] : List Nat).length ≤ 1 := by split <;> simp
    rw [List.length_append]; omega
  have l2 : (figs d).length ≤ 401 := by
    rw [figs_eq]
    have := dgs_len400 hd
    have hl : (if d < 0 then [45] else [] : List Nat).length ≤ 1 := by split <;> simp
    rw [List.length_append]; omega
  have q1 : (figs n).length ≤ 16777216 := by omega
  have q2 : (figs d).length ≤ 16777216 := by omega
  have q3 : (figs n).length + 1 ≤ 16777216 := by omega
  have q4 : (figs n).length + 1 + (figs d).length ≤ 16777216 := by omega
  have q5 : (figs n).length ≤ 16777215 := by omega
  simp [f_write_value, mkFn1, b_write_value, is_value_ratio n d h hd, h1, check_t, f_value_text, b_value_text, f_plain_text, b_plain_text, ex, ey, q1, q2, q3, q4, q5]
end K14
end
section
set_option maxRecDepth 100000
set_option autoImplicit false
set_option exponentiation.threshold 3000
/-! reading a ratio -/
namespace K14
open PySem PySem.Spec PyProof.Rows L2 Pi
/-- the signs t, read up to p -/
abbrev sgE (t : List Nat) (p : Nat) : Ent := .ins 3 [.str t, .int p]
section
variable (h : Hs) (t : List Nat) (p : Nat) (hl : t.length ≤ 16777216)
include hl
theorem here : f_Signs_here [.ref h.length] (h ++ [sgE t p]) = .ok (.str ((t.drop p).take 1)) (h ++ [sgE t p]) := by
  simp [f_Signs_here, mkFn1, b_Signs_here, insAt_last, sl1 (h ++ [sgE t p]) t p hl]
def isOne (t : List Nat) (p : Nat) (s : List Nat) : Bool := match t[p]? with
  | some k => s.contains k
  | none => false
theorem is_one (s : List Nat) (hok : okS t = true) : f_Signs_is_one_of [.ref h.length, .str s] (h ++ [sgE t p]) = .ok (.bl (isOne t p s)) (h ++ [sgE t p]) := by
  have e := here h t p hl
  cases q : t[p]? with
  | none =>
    have e2 : (t.drop p).take 1 = [] := by
      rw [List.drop_eq_nil_of_le (List.getElem?_eq_none_iff.mp q)]
      rfl
    rw [e2] at e
    simp [f_Signs_is_one_of, mkFn2, b_Signs_is_one_of, insAt_last, e, isOne, q]
  | some k =>
    have hp : p < t.length := (List.getElem?_eq_some_iff.mp q).1
    have e2 : (t.drop p).take 1 = [k] := by
      rw [List.drop_eq_getElem_cons hp]
      have := (List.getElem?_eq_some_iff.mp q).2
      simp [this]
    have hk : k < 1114112 := by
      have := List.all_eq_true.mp hok k (List.mem_of_getElem? q)
      simpa using this
    rw [e2] at e
    simp [f_Signs_is_one_of, mkFn2, b_Signs_is_one_of, insAt_last, e, isOne, q, hk]
theorem starts1 (k : Nat) : Txt.startswith3 (sOf t) (sOf [k]) (p : Int) = decide (t[p]? = some k) := by
  have e := StrLaws.subAt_one (sOf t) k p
  have e0 : fromIndex (sOf t).length (p : Int) = p := by
    unfold fromIndex
    rw [if_neg (by omega)]
    omega
  rw [Bool.eq_iff_iff, decide_eq_true_eq]
  unfold Txt.startswith3
  rw [e0, Bool.and_eq_true, decide_eq_true_eq]
  have e1 : (sOf t).cps.toList = t := sOf_toList t
  rw [e1] at e
  exact e
theorem took (k : Nat) : f_Signs_took [.ref h.length, .str [k]] (h ++ [sgE t p]) = if t[p]? = some k then .ok (.bl true) (h ++ [sgE t (p + 1)]) else .ok (.bl false) (h ++ [sgE t p]) := by
  have e := starts1 t p hl k
  have e2 : opStartsAt (h ++ [sgE t p]) (.str t) [.str [k], .int (p : Int)] = .ok (.bl (decide (t[p]? = some k))) (h ++ [sgE t p]) := by
    show R.ok (D.bl (Txt.startswith3 (sOf t) (sOf [k]) (p : Int))) _ = _
    rw [e]
  by_cases q : t[p]? = some k
  · rw [if_pos q]
    simp [f_Signs_took, mkFn2, b_Signs_took, insAt_last, isSt, e2, q, opLen_str, putD, set_last]
  · rw [if_neg q]
    simp [f_Signs_took, mkFn2, b_Signs_took, insAt_last, isSt, e2, q]
end
abbrev FIG : List Nat := [48, 49, 50, 51, 52, 53, 54, 55, 56, 57]
theorem fig_in {k : Nat} : FIG.contains k = true ↔ 48 ≤ k ∧ k ≤ 57 := by
  constructor
  · intro h
    simp at h
    omega
  · intro h
    simp
    omega
theorem fig_ix {k : Nat} (h1 : 48 ≤ k) (h2 : k ≤ 57) (h : Hs) : opIndexS h (.str FIG) [.str [k]] = .ok (.int ((k - 48 : Nat) : Int)) h := by
  have : k = 48 ∨ k = 49 ∨ k = 50 ∨ k = 51 ∨ k = 52 ∨ k = 53 ∨ k = 54 ∨ k = 55 ∨ k = 56 ∨ k = 57 := by omega
  have aux : ∀ (k i : Nat), Builtin.Str.occurrences (sOf FIG) (sOf [k]) 0 10 1 = [i] → opIndexS h (.str FIG) [.str [k]] = .ok (.int (i : Int)) h := by
    intro k i e
    unfold opIndexS
    dsimp only
    rw [show FIG.length = 10 from rfl, e]
  rcases this with rfl | rfl | rfl | rfl | rfl | rfl | rfl | rfl | rfl | rfl <;> exact aux _ _ (by decide +kernel)
/-- the text's figures from p on -/
def wFr : IS := sSeq (sSet 1 (cOp opAdd (cOp opMul (cVar 1) (cC (.int 10))) (cMt isSt opIndexS (cC (.str FIG)) (aCons (cMeth f_Signs_here 3 (cVar 0) aNil) aNil)))) (sFldA opIadd 3 1 (cVar 0) (cC (.int 1)))
theorem isOne_at {t : List Nat} {p k : Nat} {s : List Nat} (h : t[p]? = some k) : isOne t p s = s.contains k := by unfold isOne; rw [h]
def vlI (a : Int) (cs : List Nat) : Int := cs.foldl (fun a c => a * 10 + ((c - 48 : Nat) : Int)) a
theorem vlI_nat (cs : List Nat) : ∀ m : Nat, vlI (m : Int) cs = (vlF m cs : Nat) := by
  induction cs with
  | nil => intro m; rfl
  | cons c cs ih =>
    intro m
    have := ih (m * 10 + (c - 48))
    have e : ((m * 10 + (c - 48) : Nat) : Int) = (m : Int) * 10 + ((c - 48 : Nat) : Int) := by omega
    rw [e] at this
    exact this
theorem run_loop (h : Hs) (post : List Nat) (hpost : isOne post 0 FIG = false) (cs : List Nat) : ∀ (pre : List Nat) (a : Int) (F : Nat), okS (pre ++ cs ++ post) = true → (pre ++ cs ++ post).length ≤ 16777216 → (∀ c ∈ cs, 48 ≤ c ∧ c ≤ 57) → cs.length < F →
    cWhile F (tV (cMeth f_Signs_is_one_of 3 (cVar 0) (aCons (cC (.str FIG)) aNil))) wFr [some (.ref h.length), some (.int a)] (h ++ [sgE (pre ++ cs ++ post) pre.length]) =
      .next [some (.ref h.length), some (.int (vlI a cs))] (h ++ [sgE (pre ++ cs ++ post) (pre ++ cs).length]) := by
  induction cs with
  | nil =>
    intro pre a F hok hl hc hF
    obtain ⟨F, rfl⟩ : ∃ F', F = F' + 1 := ⟨F - 1, by omega⟩
    have e := is_one h (pre ++ [] ++ post) pre.length hl FIG hok
    have e2 : isOne (pre ++ [] ++ post) pre.length FIG = false := by
      rw [← hpost]
      unfold isOne
      rw [List.append_nil, List.getElem?_append_right (Nat.le_refl _), Nat.sub_self]
    rw [e2] at e
    rw [cWhile_succ]
    simp only [List.append_nil] at e ⊢
    simp [insAt_last, e, vlI]
  | cons c cs ihc =>
    intro pre a F hok hl hc hF
    obtain ⟨F, rfl⟩ : ∃ F', F = F' + 1 := ⟨F - 1, by omega⟩
    obtain ⟨c1, c2⟩ := hc c List.mem_cons_self
    have et : pre ++ c :: cs ++ post = (pre ++ [c]) ++ cs ++ post := by simp
    have ih := ihc (pre ++ [c]) (a * 10 + ((c - 48 : Nat) : Int)) F (by rw [← et]; exact hok) (by rw [← et]; exact hl) (fun x hx => hc x (List.mem_cons_of_mem _ hx)) (by simpa using hF)
    rw [← et] at ih
    have hat : (pre ++ c :: cs ++ post)[pre.length]? = some c := by simp
    have e := is_one h (pre ++ c :: cs ++ post) pre.length hl FIG hok
    rw [isOne_at hat, fig_in.mpr ⟨c1, c2⟩] at e
    have eh := here h (pre ++ c :: cs ++ post) pre.length hl
    have ed : ((pre ++ c :: cs ++ post).drop pre.length).take 1 = [c] := by simp
    rw [ed] at eh
    have ei := fig_ix c1 c2 (h ++ [sgE (pre ++ c :: cs ++ post) pre.length])
    have em : mulOk a 10 = true := by
      unfold mulOk
      simp
    rw [cWhile_succ]
    have ev : vlI a (c :: cs) = vlI (a * 10 + ((c - 48 : Nat) : Int)) cs := rfl
    rw [ev]
    generalize ((c - 48 : Nat) : Int) = q at *
    generalize pre ++ c :: cs ++ post = t at *
    have epl : (pre ++ [c]).length = pre.length + 1 := by simp
    rw [epl] at ih
    have el : (pre ++ c :: cs).length = (pre ++ [c] ++ cs).length := by simp
    rw [el, ← ih]
    simp [insAt_last, e, eh, ei, wFr, isSt, opMul_int em, putD, set_last, sgE]
end K14
end
section
set_option maxRecDepth 100000
set_option autoImplicit false
set_option exponentiation.threshold 3000
/-! reading a ratio: the rest -/
namespace K14
open PySem PySem.Spec PyProof.Rows L2 Pi
theorem figure_run (h : Hs) (pre cs post : List Nat) (hpost : isOne post 0 FIG = false) (hok : okS (pre ++ cs ++ post) = true) (hl : (pre ++ cs ++ post).length ≤ 16777216) (hc : ∀ c ∈ cs, 48 ≤ c ∧ c ≤ 57) (hn : cs ≠ []) (hs : cs.length < 100000) :
    f_Signs_figure_run [.ref h.length] (h ++ [sgE (pre ++ cs ++ post) pre.length]) = .ok (.int (vlI 0 cs)) (h ++ [sgE (pre ++ cs ++ post) (pre ++ cs).length]) := by
  have e := run_loop h post hpost cs pre 0 fuelW hok hl hc hs
  obtain ⟨c, r, rfl⟩ : ∃ c r, cs = c :: r := by
    cases cs with
    | nil => exact absurd rfl hn
    | cons c r => exact ⟨c, r, rfl⟩
  have hat : (pre ++ c :: r ++ post)[pre.length]? = some c := by simp
  have e1 := is_one h (pre ++ c :: r ++ post) pre.length hl FIG hok
  rw [isOne_at hat, fig_in.mpr (hc c List.mem_cons_self)] at e1
  unfold wFr at e
  generalize pre ++ c :: r ++ post = t at *
  generalize (pre ++ c :: r).length = q at *
  generalize vlI 0 (c :: r) = z at *
  simp [f_Signs_figure_run, mkFn1, b_Signs_figure_run, insAt_last, e1, e]
theorem vl_dgs (m : Nat) : vlI 0 (dgs m) = (m : Int) := by
  have := vlI_nat (dgs m) 0
  rw [vlF_dgs] at this
  exact this
theorem dgs_ne (m : Nat) : dgs m ≠ [] := by
  by_cases h : m < 10
  · rw [dgs_lt h]; simp
  · rw [dgs_ge (by omega)]; simp
theorem figures_read (h : Hs) (pre post : List Nat) (m : Nat) (hm : m < 2 ^ 1000) (hpost : isOne post 0 FIG = false) (hok : okS (pre ++ dgs m ++ post) = true) (hl : (pre ++ dgs m ++ post).length ≤ 16777216) :
    f_Signs_figures [.ref h.length] (h ++ [sgE (pre ++ dgs m ++ post) pre.length]) = .ok (.int m) (h ++ [sgE (pre ++ dgs m ++ post) (pre ++ dgs m).length]) := by
  have e0 := took h (pre ++ dgs m ++ post) pre.length hl 48
  by_cases h0 : m = 0
  · subst h0
    have ed : dgs 0 = [48] := dgs_lt (by decide)
    rw [ed] at e0 hok hl ⊢
    have hat : (pre ++ [48] ++ post)[pre.length]? = some 48 := by simp
    rw [if_pos hat] at e0
    have e1 := is_one h (pre ++ [48] ++ post) (pre.length + 1) hl FIG hok
    have e2 : isOne (pre ++ [48] ++ post) (pre.length + 1) FIG = false := by
      rw [← hpost]
      unfold isOne
      rw [List.getElem?_append_right (by simp)]
      simp
    rw [e2] at e1
    have el : (pre ++ [48]).length = pre.length + 1 := by simp
    rw [el]
    generalize pre ++ [48] ++ post = t at *
    simp only [sgE, Int.natCast_add] at e0 e1 ⊢
    simp [f_Signs_figures, mkFn1, b_Signs_figures, insAt_last, e0, e1]
    simp at e1
    simp [e1]
  · obtain ⟨c, r, ec, c1, c2⟩ := dgs_first m (by omega)
    have hat : (pre ++ dgs m ++ post)[pre.length]? = some c := by rw [ec]; simp
    have hne : ¬ ((pre ++ dgs m ++ post)[pre.length]? = some 48) := by
      rw [hat]
      intro z
      cases z
      omega
    rw [if_neg hne] at e0
    have e1 := figure_run h pre (dgs m) post hpost hok hl (dgs_ok m) (dgs_ne m) (Nat.lt_of_le_of_lt (dgs_len400 hm) (by decide))
    rw [vl_dgs] at e1
    generalize pre ++ dgs m ++ post = t at *
    generalize (pre ++ dgs m).length = q at *
    generalize (m : Int) = z at *
    simp [f_Signs_figures, mkFn1, b_Signs_figures, insAt_last, e0, e1]
theorem fit_t (h : Hs) (x : Ent) (a b : D) : f_ValueSigns_fit [.ref h.length, .bl true, a, b] (h ++ [x]) = .ok b (h ++ [x]) := by
  simp [f_ValueSigns_fit, mkFn4, b_ValueSigns_fit]
theorem fit_f (h : Hs) (x : Ent) (a b : D) : f_ValueSigns_fit [.ref h.length, .bl false, a, b] (h ++ [x]) = .exc 2 (some a) (h ++ [x]) := by
  simp [f_ValueSigns_fit, mkFn4, b_ValueSigns_fit]
/-- what the reading tells -/
def told (b : Int) (n : Int) (d : Nat) (h : Hs) : R D := if Int.gcd n d = 1 then .ok (.tup [sRatio, .tup [.int n, .int d]]) h else .exc 2 (some (.int b)) h
theorem over_read (h : Hs) (pre : List Nat) (b : Int) (n : Int) (d : Nat) (h0 : 0 < d) (hd : d < 2 ^ 1000) (hok : okS (pre ++ dgs d) = true) (hl : (pre ++ dgs d).length ≤ 16777216) :
    f_ValueSigns_over [.ref h.length, .int b, .int n] (h ++ [sgE (pre ++ dgs d) pre.length]) = told b n d (h ++ [sgE (pre ++ dgs d) (pre ++ dgs d).length]) := by
  obtain ⟨c, r, ec, c1, c2⟩ := dgs_first d h0
  have e1 := figures_read h pre [] d hd rfl (by simpa using hok) (by simpa using hl)
  rw [List.append_nil] at e1
  have eh := here h (pre ++ dgs d) pre.length hl
  have ed : ((pre ++ dgs d).drop pre.length).take 1 = [c] := by rw [ec]; simp
  rw [ed] at eh
  have eg := fun H : Hs => greatest_part n.natAbs (d : Int) H (by omega) (by omega) (by simpa using hd)
  have e2 : Int.gcd (n.natAbs : Int) (d : Int) = Int.gcd n d := by simp [Int.gcd]
  rw [e2] at eg
  have hc : c < 1114112 := by omega
  have hc2 : (c == 48) = false := by
    rw [beq_eq_false_iff_ne]; omega
  generalize (pre ++ dgs d).length = q at *
  generalize pre ++ dgs d = t at *
  unfold told
  generalize (d : Int) = z at *
  by_cases hg : Int.gcd n z = 1
  · rw [if_pos hg]
    rw [hg] at eg
    simp [f_ValueSigns_over, mkFn3, b_ValueSigns_over, insAt_last, eh, hc, hc2, e1, eg, fit_t]
  · rw [if_neg hg]
    have hg2 : (((Int.gcd n z : Nat) : Int) == 1) = false := by
      rw [beq_eq_false_iff_ne]; omega
    generalize ((Int.gcd n z : Nat) : Int) = y at *
    simp [f_ValueSigns_over, mkFn3, b_ValueSigns_over, insAt_last, eh, hc, hc2, e1, eg, hg2, fit_f]
theorem okS_append (a b : List Nat) : okS (a ++ b) = (okS a && okS b) := by unfold okS; rw [List.all_append]
theorem okS_dgs (m : Nat) : okS (dgs m) = true := by
  unfold okS
  rw [List.all_eq_true]
  intro c hc
  have := dgs_ok m c hc
  simp
  omega
/-- a written ratio: sign, above, below -/
def txR (n : Int) (d : Nat) : List Nat := (if n < 0 then [45] else []) ++ dgs n.natAbs ++ 47 :: dgs d
theorem txR_figs (n : Int) (d : Nat) : txR n d = figs n ++ 47 :: figs (d : Int) := by rw [figs_eq n, figs_nat]; rfl
theorem txR_ok (n : Int) (d : Nat) : okS (txR n d) = true := by
  unfold txR
  rw [okS_append, okS_append, okS_cons, okS_dgs, okS_dgs]
  split <;> rfl
theorem txR_len (n : Int) (d : Nat) (hn : n.natAbs < 2 ^ 1000) (hd : d < 2 ^ 1000) : (txR n d).length ≤ 802 := by
  unfold txR
  have h1 := dgs_len400 hn
  have h2 := dgs_len400 hd
  have hl : (if n < 0 then [45] else [] : List Nat).length ≤ 1 := by split <;> simp
  rw [List.length_append, List.length_append, List.length_cons]
  omega
theorem number_core (h : Hs) (t : List Nat) (p0 P q : Nat) (n m : Int) (neg : Bool) (r : R D) (c : Nat) (hc : c < 1114112) (hc2 : neg = true → (c == 48) = false) (hn : n = bif neg then -m else m)
    (e45 : f_Signs_took [.ref h.length, .str [45]] (h ++ [sgE t p0]) = .ok (.bl neg) (h ++ [sgE t P]))
    (e36 : f_Signs_took [.ref h.length, .str [36]] (h ++ [sgE t P]) = .ok (.bl false) (h ++ [sgE t P]))
    (eh : f_Signs_here [.ref h.length] (h ++ [sgE t P]) = .ok (.str [c]) (h ++ [sgE t P]))
    (ef : f_Signs_figures [.ref h.length] (h ++ [sgE t P]) = .ok (.int m) (h ++ [sgE t q]))
    (e47 : f_Signs_took [.ref h.length, .str [47]] (h ++ [sgE t q]) = .ok (.bl true) (h ++ [sgE t (q + 1)]))
    (eo : f_ValueSigns_over [.ref h.length, .int (p0 : Nat), .int n] (h ++ [sgE t (q + 1)]) = r) :
    f_ValueSigns_number [.ref h.length] (h ++ [sgE t p0]) = r := by
  generalize q + 1 = q1 at *
  subst hn
  cases neg with
  | true =>
    have hc3 := hc2 rfl
    simp only [cond_true] at eo
    cases r with
    | ok d h' => simp [f_ValueSigns_number, mkFn1, b_ValueSigns_number, insAt_last, e45, e36, eh, ef, e47, eo, hc, hc3]
    | exc k p h' => simp [f_ValueSigns_number, mkFn1, b_ValueSigns_number, insAt_last, e45, e36, eh, ef, e47, eo, hc, hc3]
    | bad => simp [f_ValueSigns_number, mkFn1, b_ValueSigns_number, insAt_last, e45, e36, eh, ef, e47, eo, hc, hc3]
  | false =>
    simp only [cond_false] at eo
    cases r with
    | ok d h' => simp [f_ValueSigns_number, mkFn1, b_ValueSigns_number, insAt_last, e45, e36, eh, ef, e47, eo]
    | exc k p h' => simp [f_ValueSigns_number, mkFn1, b_ValueSigns_number, insAt_last, e45, e36, eh, ef, e47, eo]
    | bad => simp [f_ValueSigns_number, mkFn1, b_ValueSigns_number, insAt_last, e45, e36, eh, ef, e47, eo]
theorem number_read (h : Hs) (n : Int) (d : Nat) (h0 : 0 < d) (hn : n.natAbs < 2 ^ 1000) (hd : d < 2 ^ 1000) : f_ValueSigns_number [.ref h.length] (h ++ [sgE (txR n d) 0]) = told 0 n d (h ++ [sgE (txR n d) (txR n d).length]) := by
  have hok := txR_ok n d
  have hlen := txR_len n d hn hd
  have hl : (txR n d).length ≤ 16777216 := by omega
  have hp47 : isOne (47 :: dgs d) 0 FIG = false := by rfl
  obtain ⟨pre, hpre⟩ : ∃ pre, pre = (if n < 0 then [45] else [] : List Nat) := ⟨_, rfl⟩
  have ht : txR n d = pre ++ dgs n.natAbs ++ 47 :: dgs d := by rw [hpre]; rfl
  have ht2 : txR n d = (pre ++ dgs n.natAbs ++ [47]) ++ dgs d := by rw [ht]; simp
  obtain ⟨c, r, ec⟩ : ∃ c r, dgs n.natAbs = c :: r := by
    cases q : dgs n.natAbs with
    | nil => exact absurd q (dgs_ne _)
    | cons c r => exact ⟨c, r, rfl⟩
  have c12 := dgs_ok n.natAbs c (by rw [ec]; exact List.mem_cons_self)
  have hat : (txR n d)[pre.length]? = some c := by rw [ht, ec]; simp
  have hat47 : (txR n d)[(pre ++ dgs n.natAbs).length]? = some 47 := by rw [ht]; simp
  have e36 := took h (txR n d) pre.length hl 36
  rw [if_neg (by rw [hat]; intro z; cases z; omega)] at e36
  have eh := here h (txR n d) pre.length hl
  have ed : ((txR n d).drop pre.length).take 1 = [c] := by rw [ht, ec]; simp
  rw [ed] at eh
  have ef := figures_read h pre (47 :: dgs d) n.natAbs hn hp47 (by rw [← ht]; exact hok) (by rw [← ht]; exact hl)
  rw [← ht] at ef
  have e47 := took h (txR n d) (pre ++ dgs n.natAbs).length hl 47
  rw [if_pos hat47] at e47
  have eo := over_read h (pre ++ dgs n.natAbs ++ [47]) 0 n d h0 hd (by rw [← ht2]; exact hok) (by rw [← ht2]; exact hl)
  have eql : (pre ++ dgs n.natAbs ++ [47]).length = (pre ++ dgs n.natAbs).length + 1 := by rw [List.length_append]; rfl
  rw [← ht2, eql] at eo
  have e45 := took h (txR n d) 0 hl 45
  by_cases hneg : n < 0
  · have hp : pre = [45] := by rw [hpre, if_pos hneg]
    have h45 : (txR n d)[0]? = some 45 := by rw [ht, hp]; simp
    rw [if_pos h45] at e45
    have hpl : pre.length = 1 := by rw [hp]; rfl
    obtain ⟨c', r', ec', c3, c4⟩ := dgs_first n.natAbs (by omega)
    rw [ec] at ec'
    cases ec'
    exact number_core h (txR n d) 0 pre.length (pre ++ dgs n.natAbs).length n n.natAbs true _ c (by omega) (fun _ => by rw [beq_eq_false_iff_ne]; omega) (by show n = -(n.natAbs : Int); omega) (by rw [hpl]; exact e45) e36 eh ef e47 eo
  · have hp : pre = [] := by rw [hpre, if_neg hneg]
    have hpl : pre.length = 0 := by rw [hp]; rfl
    have h45 : ¬ ((txR n d)[0]? = some 45) := by
      rw [← hpl, hat]
      intro z
      cases z
      omega
    rw [if_neg h45] at e45
    exact number_core h (txR n d) 0 pre.length (pre ++ dgs n.natAbs).length n n.natAbs false _ c (by omega) (fun z => by cases z) (by show n = (n.natAbs : Int); omega) (by rw [hpl]; exact e45) e36 eh ef e47 eo
theorem first_sign (n : Int) (d : Nat) : ∃ c, (txR n d)[0]? = some c ∧ 45 ≤ c ∧ c ≤ 57 := by
  obtain ⟨c, r, ec⟩ : ∃ c r, dgs n.natAbs = c :: r := by
    cases q : dgs n.natAbs with
    | nil => exact absurd q (dgs_ne _)
    | cons c r => exact ⟨c, r, rfl⟩
  have c12 := dgs_ok n.natAbs c (by rw [ec]; exact List.mem_cons_self)
  unfold txR
  by_cases hneg : n < 0
  · exact ⟨45, by rw [if_pos hneg]; rfl, by decide, by decide⟩
  · exact ⟨c, by rw [if_neg hneg, ec]; rfl, by omega, by omega⟩
theorem value_core (h : Hs) (t : List Nat) (p : Nat) (c : Nat) (r : R D) (c1 : 45 ≤ c) (c2 : c ≤ 57) (eh : f_Signs_here [.ref h.length] (h ++ [sgE t p]) = .ok (.str [c]) (h ++ [sgE t p]))
    (eo : ∀ s : List Nat, (∀ k ∈ s, 58 ≤ k) → f_Signs_is_one_of [.ref h.length, .str s] (h ++ [sgE t p]) = .ok (.bl false) (h ++ [sgE t p])) (en : f_ValueSigns_number [.ref h.length] (h ++ [sgE t p]) = r) :
    f_ValueSigns_value [.ref h.length] (h ++ [sgE t p]) = r := by
  have hc : c < 1114112 := by omega
  have n1 : (c == 91) = false := by rw [beq_eq_false_iff_ne]; omega
  have n2 : (c == 123) = false := by rw [beq_eq_false_iff_ne]; omega
  have o1 := eo [65, 66, 67, 68, 69, 70, 71, 72, 73, 74, 75, 76, 77, 78, 79, 80, 81, 82, 83, 84, 85, 86, 87, 88, 89, 90] (by decide)
  have o2 := eo [97, 98, 99, 100, 101, 102, 103, 104, 105, 106, 107, 108, 109, 110, 111, 112, 113, 114, 115, 116, 117, 118, 119, 120, 121, 122] (by decide)
  cases r with
  | ok d h' => simp [f_ValueSigns_value, mkFn1, b_ValueSigns_value, insAt_last, eh, hc, n1, n2, o1, o2, en]
  | exc k pp h' => simp [f_ValueSigns_value, mkFn1, b_ValueSigns_value, insAt_last, eh, hc, n1, n2, o1, o2, en]
  | bad => simp [f_ValueSigns_value, mkFn1, b_ValueSigns_value, insAt_last, eh, hc, n1, n2, o1, o2, en]
theorem value_read (h : Hs) (n : Int) (d : Nat) (h0 : 0 < d) (hn : n.natAbs < 2 ^ 1000) (hd : d < 2 ^ 1000) : f_ValueSigns_value [.ref h.length] (h ++ [sgE (txR n d) 0]) = told 0 n d (h ++ [sgE (txR n d) (txR n d).length]) := by
  have hok := txR_ok n d
  have hlen := txR_len n d hn hd
  have hl : (txR n d).length ≤ 16777216 := by omega
  obtain ⟨c, hat, c1, c2⟩ := first_sign n d
  have eh := here h (txR n d) 0 hl
  have ed : ((txR n d).drop 0).take 1 = [c] := by
    cases q : txR n d with
    | nil => rw [q] at hat; cases hat
    | cons a b => rw [q] at hat; cases hat; rfl
  rw [ed] at eh
  refine value_core h (txR n d) 0 c _ c1 c2 eh (fun s hs => ?_) (number_read h n d h0 hn hd)
  have e := is_one h (txR n d) 0 hl s hok
  have e2 : isOne (txR n d) 0 s = false := by
    rw [isOne_at hat]
    cases q : s.contains c with
    | false => rfl
    | true =>
      have := hs c (by simpa using q)
      omega
  rw [e2] at e
  exact e
theorem read_core (h : Hs) (t : List Nat) (b n : Int) (d : Nat) (hl : t.length ≤ 16777216) (ev : f_ValueSigns_value [.ref h.length] (h ++ [sgE t 0]) = told b n d (h ++ [sgE t t.length])) :
    f_read_value [.str t] h = told b n d (h ++ [sgE t t.length]) := by
  have eh := here h t t.length hl
  have ed : (t.drop t.length).take 1 = [] := by rw [List.drop_length]; rfl
  rw [ed] at eh
  generalize t.length = q at *
  have ei : f_Signs___init__ [.ref h.length, .str t] (h ++ [.ins 3 []]) = .ok .non (h ++ [sgE t 0]) := by
    simp [f_Signs___init__, mkFn2, b_Signs___init__, insAt_last, putD, set_last]
  unfold told at *
  by_cases hg : Int.gcd n d = 1
  · rw [if_pos hg] at ev ⊢
    generalize (d : Int) = z at *
    simp [f_read_value, mkFn1, b_read_value, check_t, ei, insAt_last]
    simp [ev, f_Signs_end, mkFn2, b_Signs_end, insAt_last, eh]
  · rw [if_neg hg] at ev ⊢
    simp [f_read_value, mkFn1, b_read_value, check_t, ei, insAt_last]
    simp [ev]
/-- a written ratio is read -/
theorem read_ratio (h : Hs) (n : Int) (d : Nat) (h0 : 0 < d) (hn : n.natAbs < 2 ^ 1000) (hd : d < 2 ^ 1000) : f_read_value [.str (txR n d)] h = told 0 n d (h ++ [sgE (txR n d) (txR n d).length]) := by
  have hlen := txR_len n d hn hd
  exact read_core h (txR n d) 0 n d (by omega) (value_read h n d h0 hn hd)
end K14
end
section
set_option maxRecDepth 100000
set_option autoImplicit false
set_option exponentiation.threshold 3000
/-! the draws -/
namespace K14
open PySem PySem.Spec PyProof.Rows L2 Pi
/-- the draws stand at n -/
def DR (n : Nat) (h : Hs) : Prop := ∃ ds : List Int, h[n]? = some (.lst (ds.map D.int))
theorem DR.lt {n : Nat} {h : Hs} (H : DR n h) : n < h.length := let ⟨_, e⟩ := H; (List.getElem?_eq_some_iff.mp e).1
theorem DR.app {n : Nat} {h : Hs} (H : DR n h) (xs : Hs) : DR n (h ++ xs) := by
  have hl := H.lt
  obtain ⟨ds, e⟩ := H
  exact ⟨ds, by rw [List.getElem?_append_left hl]; exact e⟩
theorem opLen_ref {n : Nat} {h : Hs} {ds : List D} (e : h[n]? = some (.lst ds)) : opLen h [.ref n] = some (.int ds.length) := by
  show (match lk h (.ref n) with | .lst ds => some (D.int ds.length) | .lsq ds => some (D.int ds.length) | .tup ds => some (D.int ds.length) | .str cs => if cs.length ≤ LIM then some (.int cs.length) else none | _ => none) = _
  rw [lk_ref e]
theorem isLs_ref {n : Nat} {h : Hs} {ds : List D} (e : h[n]? = some (.lst ds)) : isLs h (.ref n) = true := by
  unfold isLs
  rw [lk_ref e]
theorem pop_ref {n : Nat} {h : Hs} {ds : List D} {y : D} (e : h[n]? = some (.lst ds)) (hy : ds[ds.length - 1]? = some y) : opPop h (.ref n) [] = .ok y (h.set n (.lst ds.dropLast)) := by
  have e2 : liveL h (.ref n) = some (n, ds) := by unfold liveL; dsimp only; rw [e]
  unfold opPop
  dsimp only
  rw [e2]
  dsimp only
  rw [hy]
theorem take_ok (n : Nat) (b : Int) (hb : 0 < b) (h : Hs) (H : DR n h) : ∃ v h', f__law_take [.ref n, .int b] h = .ok (.int v) h' ∧ 0 ≤ v ∧ v < b ∧ DR n h' := by
  have hn := H.lt
  obtain ⟨ds, e⟩ := H
  have hl := opLen_ref e
  rw [List.length_map] at hl
  by_cases h0 : ds = []
  · subst h0
    refine ⟨0, h, ?_, by omega, hb, ⟨[], e⟩⟩
    simp [f__law_take, mkFn2, b__law_take, hl]
  · have hp : 0 < ds.length := List.length_pos_iff.mpr h0
    have hz : (((ds.length : Nat) : Int) == 0) = false := by rw [beq_eq_false_iff_ne]; omega
    obtain ⟨y, hy⟩ : ∃ y, ds[ds.length - 1]? = some y := ⟨ds[ds.length - 1], by rw [List.getElem?_eq_getElem]⟩
    have hy2 : (ds.map D.int)[(ds.map D.int).length - 1]? = some (.int y) := by rw [List.length_map, List.getElem?_map, hy]; rfl
    have ep := pop_ref e hy2
    have e1 := isLs_ref e
    refine ⟨y % b, h.set n (.lst (ds.map D.int).dropLast), ?_, Int.emod_nonneg _ (by omega), Int.emod_lt_of_pos _ hb, ⟨ds.dropLast, ?_⟩⟩
    · generalize ((ds.length : Nat) : Int) = z at *
      generalize h.set n (.lst (ds.map D.int).dropLast) = h' at *
      simp [f__law_take, mkFn2, b__law_take, hl, hz, e1, ep, opMod_int hb]
    · rw [List.getElem?_set_self hn, List.map_dropLast]
theorem pick_ok (n : Nat) (xs : List D) (hx : 0 < xs.length) (hx2 : xs.length ≤ 1000) (h : Hs) (H : DR n h) : ∃ d h', f__law_pick [.ref n, .lst xs] h = .ok d h' ∧ d ∈ xs ∧ DR n h' := by
  obtain ⟨v, h', e, v0, v1, H'⟩ := take_ok n xs.length (by omega) h H
  obtain ⟨k, rfl⟩ := Int.eq_ofNat_of_zero_le v0
  have hk : k < xs.length := by omega
  refine ⟨xs[k], h', ?_, List.getElem_mem hk, H'⟩
  have ea : atD xs ((k : Nat) : Int) = some xs[k] := by rw [atD_nat, List.getElem?_eq_getElem hk]
  simp [f__law_pick, mkFn2, b__law_pick, e, ea]
theorem number_ok (n : Nat) (h : Hs) (H : DR n h) : ∃ v h', f__law_number [.ref n] h = .ok (.int v) h' ∧ 0 ≤ v ∧ v < 2 ^ 103 ∧ DR n h' := by
  obtain ⟨k, h1, e1, k0, k1, H1⟩ := take_ok n 5 (by decide) h H
  by_cases c0 : k = 0
  · subst c0
    obtain ⟨v, h2, e2, v0, v1, H2⟩ := take_ok n 13 (by decide) h1 H1
    exact ⟨v, h2, by simp [f__law_number, mkFn1, b__law_number, e1, e2], v0, by omega, H2⟩
  · by_cases c1 : k = 1
    · subst c1
      obtain ⟨v, h2, e2, v0, v1, H2⟩ := take_ok n 1000 (by decide) h1 H1
      obtain ⟨d, h3, e3, hd, H3⟩ := pick_ok n [.int 2, .int 3, .int 6, .int 10, .int 49] (by decide) (by decide) h2 H2
      obtain ⟨u, rfl, u0, u1⟩ : ∃ u : Int, d = .int u ∧ 0 ≤ u ∧ u ≤ 49 := by
        simp at hd
        rcases hd with rfl | rfl | rfl | rfl | rfl <;> exact ⟨_, rfl, by decide, by decide⟩
      have em : mulOk v u = true := mulOk_of (by omega) (by omega)
      refine ⟨v * u, h3, by simp [f__law_number, mkFn1, b__law_number, e1, e2, e3, opMul_int em], Int.mul_nonneg v0 u0, ?_, H3⟩
      have : v * u ≤ 1000 * 49 := Int.mul_le_mul (by omega) u1 u0 (by decide)
      omega
    · by_cases c2 : k = 2
      · subst c2
        obtain ⟨v, h2, e2, v0, v1, H2⟩ := take_ok n 1000 (by decide) h1 H1
        refine ⟨10 ^ 30 + v, h2, ?_, by omega, by omega, H2⟩
        simp [f__law_number, mkFn1, b__law_number, e1, e2, opPow, powOk]
      · by_cases c3 : k = 3
        · subst c3
          obtain ⟨v, h2, e2, v0, v1, H2⟩ := take_ok n 1000 (by decide) h1 H1
          obtain ⟨u, h3, e3, u0, u1, H3⟩ := take_ok n 1000 (by decide) h2 H2
          have em : mulOk v u = true := mulOk_of (by omega) (by omega)
          have hvu : v * u ≤ 1000 * 1000 := Int.mul_le_mul (by omega) (by omega) u0 (by decide)
          have hvu0 := Int.mul_nonneg v0 u0
          have em2 : mulOk (v * u) 1000000000000 = true := mulOk_of (by omega) (by decide)
          refine ⟨v * u * 1000000000000, h3, ?_, by omega, by omega, H3⟩
          simp [f__law_number, mkFn1, b__law_number, e1, e2, e3, opMul_int em, opMul_int em2, opPow, powOk]
        · obtain ⟨v, h2, e2, v0, v1, H2⟩ := take_ok n 100 (by decide) h1 H1
          have q0 : (k == 0) = false := by rw [beq_eq_false_iff_ne]; exact c0
          have q1 : (k == 1) = false := by rw [beq_eq_false_iff_ne]; exact c1
          have q2 : (k == 2) = false := by rw [beq_eq_false_iff_ne]; exact c2
          have q3 : (k == 3) = false := by rw [beq_eq_false_iff_ne]; exact c3
          exact ⟨1 + v, h2, by simp [f__law_number, mkFn1, b__law_number, e1, e2, q0, q1, q2, q3], by omega, by omega, H2⟩
end K14
end
section
set_option maxRecDepth 100000
set_option autoImplicit false
set_option exponentiation.threshold 3000
/-! what is told is what is due -/
namespace K14
open PySem PySem.Spec PyProof.Rows L2 Pi
def okT : Nat → D → Prop
  | 0, _ => False
  | _ + 1, .non => True
  | _ + 1, .bl _ => True
  | _ + 1, .int _ => True
  | _ + 1, .str s => okS s = true
  | k + 1, .tup xs => xs.length ≤ 1000 ∧ ∀ x ∈ xs, okT k x
  | k + 1, .lst xs => xs.length ≤ 1000 ∧ ∀ x ∈ xs, okT k x
  | _ + 1, _ => False
theorem all_true {α : Type} : ∀ (l : List α), ((l.map fun _ => true).all id) = true
  | [] => rfl
  | _ :: l => all_true l
theorem intsD_mem {n : Nat} {d : D} (h : d ∈ intsD 0 n) : ∃ i : Nat, d = .int (i : Int) ∧ i < n := by
  unfold intsD at h
  rw [List.mem_map] at h
  obtain ⟨i, hi, rfl⟩ := h
  exact ⟨i, by simp, List.mem_range.mp hi⟩
theorem same_refl : ∀ (k : Nat) (x : D) (h : Hs), okT k x → f__law_same k [x, x] h = .ok (.bl true) h
  | 0, _, _, H => H.elim
  | k + 1, .non, h, _ => by
    have : f__law_same (k + 1) = mkFn 2 4 (b__law_same (f__law_same k)) := rfl
    rw [this]
    simp [mkFn2, b__law_same, opIsN, Pi.isNon]
  | k + 1, .bl b, h, _ => by
    have : f__law_same (k + 1) = mkFn 2 4 (b__law_same (f__law_same k)) := rfl
    rw [this]
    simp [mkFn2, b__law_same, opIsN, Pi.isNon]
  | k + 1, .int b, h, _ => by
    have : f__law_same (k + 1) = mkFn 2 4 (b__law_same (f__law_same k)) := rfl
    rw [this]
    simp [mkFn2, b__law_same, opIsN, Pi.isNon]
  | k + 1, .str s, h, H => by
    have hs : okS s = true := H
    have : f__law_same (k + 1) = mkFn 2 4 (b__law_same (f__law_same k)) := rfl
    rw [this]
    simp [mkFn2, b__law_same, opIsN, Pi.isNon, hs]
  | k + 1, .tup xs, h, H => by
    obtain ⟨hl, hx⟩ := (show xs.length ≤ 1000 ∧ ∀ x ∈ xs, okT k x from H)
    have : f__law_same (k + 1) = mkFn 2 4 (b__law_same (f__law_same k)) := rfl
    rw [this]
    have hr : rgOk (xs.length : Int) = true := by
      unfold rgOk
      simp
      omega
    have hg : goLc (gNm 3) tAll (cCall (f__law_same k) (aCons (cOp opIx (cVar 0) (cVar 3)) (aCons (cOp opIx (cVar 1) (cVar 3)) aNil))) [some (.tup xs), some (.tup xs), none, none] (intsD 0 xs.length) h = .ok ((intsD 0 xs.length).map fun _ => .bl true) h := by
      refine goLc_map _ fun d hd => ?_
      obtain ⟨i, rfl, hi⟩ := intsD_mem hd
      refine ⟨_, rfl, rfl, ?_⟩
      have ea : atD xs ((i : Nat) : Int) = some xs[i] := by rw [atD_nat, List.getElem?_eq_getElem hi]
      have es := same_refl k xs[i] h (hx _ (List.getElem_mem hi))
      generalize ((i : Nat) : Int) = z at *
      simp [ea, es]
    have hb := blsOf_map (fun _ : D => true) (intsD 0 xs.length)
    have hli : (intsD 0 xs.length).length ≤ 16777216 := by simp [intsD]; omega
    simp [mkFn2, b__law_same, hr, hli, hg, hb]
  | k + 1, .lst xs, h, H => by
    obtain ⟨hl, hx⟩ := (show xs.length ≤ 1000 ∧ ∀ x ∈ xs, okT k x from H)
    have : f__law_same (k + 1) = mkFn 2 4 (b__law_same (f__law_same k)) := rfl
    rw [this]
    have hr : rgOk (xs.length : Int) = true := by
      unfold rgOk
      simp
      omega
    have hg : goLc (gNm 3) tAll (cCall (f__law_same k) (aCons (cOp opIx (cVar 0) (cVar 3)) (aCons (cOp opIx (cVar 1) (cVar 3)) aNil))) [some (.lst xs), some (.lst xs), none, none] (intsD 0 xs.length) h = .ok ((intsD 0 xs.length).map fun _ => .bl true) h := by
      refine goLc_map _ fun d hd => ?_
      obtain ⟨i, rfl, hi⟩ := intsD_mem hd
      refine ⟨_, rfl, rfl, ?_⟩
      have ea : atD xs ((i : Nat) : Int) = some xs[i] := by rw [atD_nat, List.getElem?_eq_getElem hi]
      have es := same_refl k xs[i] h (hx _ (List.getElem_mem hi))
      generalize ((i : Nat) : Int) = z at *
      simp [ea, es]
    have hb := blsOf_map (fun _ : D => true) (intsD 0 xs.length)
    have hli : (intsD 0 xs.length).length ≤ 16777216 := by simp [intsD]; omega
    simp [mkFn2, b__law_same, hr, hli, hg, hb]

theorem lst_isR {n d : Int} (h0 : d ≠ 0) : isR (lst n d).1 (lst n d).2 = true := by
  have hg := gcd_pos (n := n) h0
  have h1 : Int.gcd (n / (Int.gcd n d : Nat)) (d / (Int.gcd n d : Nat)) = 1 := by
    have e := Int.gcd_ediv_gcd_ediv_gcd (i := n) (j := d) (by omega)
    exact e
  unfold isR lst
  by_cases hp : 0 < d
  · rw [if_pos hp]
    have h2 : 0 < d / (Int.gcd n d : Nat) := Int.ediv_pos_of_pos_of_dvd hp (by omega) (Int.gcd_dvd_right n d)
    simp [h1, h2]
  · rw [if_neg hp]
    have h2 : 0 < -(d / (Int.gcd n d : Nat)) := by
      rw [← Int.neg_ediv_of_dvd (Int.gcd_dvd_right n d)]
      exact Int.ediv_pos_of_pos_of_dvd (by omega) (by omega) ((Int.dvd_neg).mpr (Int.gcd_dvd_right n d))
    simp [h1, h2]
    omega
end K14
end
section
set_option maxRecDepth 100000
set_option autoImplicit false
set_option exponentiation.threshold 3000
/-! the law's part of ratios -/
namespace K14
open PySem PySem.Spec PyProof.Rows L2 Pi
theorem ediv_abs (n : Int) (g : Nat) (hd : (g : Int) ∣ n) : (n / (g : Int)).natAbs ≤ n.natAbs := by
  obtain ⟨k, rfl⟩ := hd
  by_cases h0 : g = 0
  · subst h0; simp
  · rw [Int.mul_ediv_cancel_left _ (by omega), Int.natAbs_mul]
    have : 1 ≤ g := by omega
    show k.natAbs ≤ g * k.natAbs
    exact Nat.le_mul_of_pos_left _ (by omega)
theorem lst_abs (n d : Int) : (lst n d).1.natAbs ≤ n.natAbs ∧ (lst n d).2.natAbs ≤ d.natAbs := by
  have h1 := ediv_abs n (Int.gcd n d) (Int.gcd_dvd_left n d)
  have h2 := ediv_abs d (Int.gcd n d) (Int.gcd_dvd_right n d)
  unfold lst
  split
  · exact ⟨h1, h2⟩
  · exact ⟨by rw [Int.natAbs_neg]; exact h1, by rw [Int.natAbs_neg]; exact h2⟩
theorem isR_lst {n d : Int} (h0 : d ≠ 0) : isR n d = ((lst n d).1 == n && (lst n d).2 == d) := by
  have hl := lst_isR (n := n) h0
  rw [Bool.eq_iff_iff]
  constructor
  · intro h
    obtain ⟨h1, h2⟩ := Bool.and_eq_true_iff.mp h
    have h1 := of_decide_eq_true h1
    have h2 := of_decide_eq_true h2
    unfold lst
    rw [if_pos h1, h2]
    simp
  · intro h
    obtain ⟨h1, h2⟩ := Bool.and_eq_true_iff.mp h
    rw [beq_iff_eq.mp h1, beq_iff_eq.mp h2] at hl
    exact hl
theorem opEq_tup2 (h : Hs) (a b x y : Int) : opEq h (.tup [.int a, .int b]) (.tup [.int x, .int y]) = some (.bl (a == x && b == y)) := by
  show (if okD (.tup [.int a, .int b]) && okD (.tup [.int x, .int y]) then some (D.bl (eqd (.tup [.int a, .int b]) (.tup [.int x, .int y]))) else none) = _
  have e1 : ∀ a b : Int, okD (.tup [.int a, .int b]) = true := fun a b => rfl
  rw [e1, e1]
  show some (D.bl ((a == x) && ((b == y) && true))) = _
  rw [Bool.and_true]
@[simp] theorem sTryAt_eq (ct : Nat → Option Bool) (i j : Nat) (b : IS) (e : Lv) (h : Hs) : sTryAt ct i j b e h = match b e h with
  | .exc k p e1 h1 => match ct k with
    | some true => match p with
      | some d => if i < e1.length ∧ i ≠ j then .next ((e1.set i none).set j (some d)) h1 else .bad
      | none => .bad
    | some false => .exc k p e1 h1
    | none => .bad
  | r => r := rfl
theorem opIx_str0 (h : Hs) (c : Nat) (r : List Nat) (hl : (c :: r).length ≤ 16777216) : opIx h (.str (c :: r)) (.int 0) = some (.str [c]) := by
  show (if (c :: r).length ≤ LIM then (atD (c :: r) 0).map fun k => D.str [k] else none) = _
  rw [if_pos hl]
  rfl
theorem okT_tup2 (a b : Int) : okT 5 (.tup [.int a, .int b]) := ⟨by simp, by
  intro x hx
  simp at hx
  rcases hx with rfl | rfl <;> trivial⟩
theorem okT_ratio (a b : Int) : okT 5 (.tup [sRatio, .tup [.int a, .int b]]) := ⟨by simp, by
  intro x hx
  simp at hx
  rcases hx with rfl | rfl
  · show okS _ = true
    decide
  · exact ⟨by simp, by
      intro x hx
      simp at hx
      rcases hx with rfl | rfl <;> trivial⟩⟩
def B106 (i : Int) : Prop := i.natAbs < 2 ^ 106
theorem B106.b {i : Int} (h : B106 i) : i.natAbs < 2 ^ 1000 := by unfold B106 at h; omega
theorem natAbs_natAbs (d : Int) : ((d.natAbs : Nat) : Int).natAbs = d.natAbs := rfl
theorem ratios_9 (x due fine : Option D) (n d : Int) (h : Hs) (h0 : d ≠ 0) (hn : B106 n) (hd : B106 d) : b__law_are_ratios_due_9 [x, some (.int n), some (.int d), due, fine, some (.str (txR n d.natAbs)), none, none] h = .ret (.bl true) (h ++ [sgE (txR n d.natAbs) (txR n d.natAbs).length]) := by
  have er := read_ratio h n d.natAbs (by omega) hn.b hd.b
  have ec := fun H => common n d H hd.b
  have eg : Int.gcd n ((d.natAbs : Nat) : Int) = Int.gcd n d := by simp [Int.gcd]
  have hlen := txR_len n d.natAbs hn.b hd.b
  -- n = 0 and text[0] == '-'
  obtain ⟨c, hat, c1, c2⟩ := first_sign n d.natAbs
  obtain ⟨c', r, et⟩ : ∃ c r, txR n d.natAbs = c :: r := by
    cases q : txR n d.natAbs with
    | nil => rw [q] at hat; cases hat
    | cons a b => exact ⟨a, b, rfl⟩
  have hc0 : n = 0 → (c' == 45) = false := by
    intro hz
    subst hz
    have : txR 0 d.natAbs = 48 :: 47 :: dgs d.natAbs := rfl
    rw [this] at et
    cases et
    rfl
  have hcc : c' < 1114112 := by
    rw [et] at hat
    cases hat
    omega
  have eix := fun H => opIx_str0 H c' r (by rw [← et]; omega)
  rw [et] at er ⊢
  generalize sgE (c' :: r) (c' :: r).length = sg at *
  unfold told at er
  rw [eg] at er
  have s1 := fun H => same_refl 5 _ H (okT_ratio n (d.natAbs : Int))
  have s2 := fun H => same_refl 5 (.int 0) H trivial
  by_cases hz : n = 0
  · have hc := hc0 hz
    have hzb : (n == 0) = true := by rw [beq_iff_eq]; exact hz
    by_cases hg : Int.gcd n d = 1
    · rw [if_pos hg] at er
      rw [hg] at ec
      simp [b__law_are_ratios_due_9, er, b__law_are_ratios_due_10, b__law_are_ratios_due_11, hzb, eix, hcc, hc, ec, s1]
    · rw [if_neg hg] at er
      have hg2 : (((Int.gcd n d : Nat) : Int) == 1) = false := by rw [beq_eq_false_iff_ne]; omega
      generalize ((Int.gcd n d : Nat) : Int) = y at *
      simp [b__law_are_ratios_due_9, er, ct_Malformed, b__law_are_ratios_due_10, b__law_are_ratios_due_11, hzb, eix, hcc, hc, ec, hg2, s2]
  · have hzb : (n == 0) = false := by rw [beq_eq_false_iff_ne]; exact hz
    by_cases hg : Int.gcd n d = 1
    · rw [if_pos hg] at er
      rw [hg] at ec
      simp [b__law_are_ratios_due_9, er, b__law_are_ratios_due_10, b__law_are_ratios_due_11, hzb, ec, s1]
    · rw [if_neg hg] at er
      have hg2 : (((Int.gcd n d : Nat) : Int) == 1) = false := by rw [beq_eq_false_iff_ne]; omega
      generalize ((Int.gcd n d : Nat) : Int) = y at *
      simp [b__law_are_ratios_due_9, er, ct_Malformed, b__law_are_ratios_due_10, b__law_are_ratios_due_11, hzb, ec, hg2, s2]
theorem figs_okS (i : Int) : okS (figs i) = true := by
  rw [figs_eq, okS_append, okS_dgs]
  split <;> rfl
theorem figs_len (i : Int) (h : i.natAbs < 2 ^ 1000) : (figs i).length ≤ 401 := by
  rw [figs_eq]
  have := dgs_len400 h
  have hl : (if i < 0 then [45] else [] : List Nat).length ≤ 1 := by split <;> simp
  rw [List.length_append]; omega
theorem ratios_7 (x fine : Option D) (n d a b : Int) (h : Hs) (h0 : d ≠ 0) (hn : B106 n) (hd : B106 d) (ha : B106 a) (hb : B106 b) (hr : isR a b = true) :
    ∃ ys, b__law_are_ratios_due_7 [x, some (.int n), some (.int d), some (.tup [.int a, .int b]), fine, none, none, none] h = .ret (.bl true) (h ++ ys) := by
  obtain ⟨u, v, ew⟩ := write_ratio a b h hr ha.b hb.b
  have e9 := ratios_9 x (some (.tup [.int a, .int b])) fine n d (h ++ [u, v]) h0 hn hd
  refine ⟨[u, v] ++ [sgE (txR n d.natAbs) (txR n d.natAbs).length], ?_⟩
  rw [← List.append_assoc, ← e9]
  have l1 : (n.natAbs : Int).natAbs.log2 < 1920 := log_ok (by simpa using hn.b)
  have l2 : (d.natAbs : Int).natAbs.log2 < 1920 := log_ok (by simpa using hd.b)
  have l3 : a.natAbs.log2 < 1920 := log_ok ha.b
  have l4 : b.natAbs.log2 < 1920 := log_ok hb.b
  have f1 := figs_nat n.natAbs
  have f2 := figs_nat d.natAbs
  have g1 := dgs_len400 hn.b
  have g2 := dgs_len400 hd.b
  have g3 := figs_len a ha.b
  have g4 := figs_len b hb.b
  have k3 := figs_okS a
  have k4 := figs_okS b
  have hl : (if n < 0 then [45] else [] : List Nat).length ≤ 1 := by split <;> simp
  have a1 : ∀ H, opAdd H (.str (if n < 0 then [45] else [])) (.str (figs (n.natAbs : Int))) = some (.str ((if n < 0 then [45] else []) ++ dgs n.natAbs)) := fun H => by
    rw [opAdd_str (by rw [f1]; show _ ≤ 16777216; omega), f1]
  have a2 : ∀ H, opAdd H (.str ((if n < 0 then [45] else []) ++ dgs n.natAbs)) (.str [47]) = some (.str ((if n < 0 then [45] else []) ++ dgs n.natAbs ++ [47])) := fun H => by
    rw [opAdd_str (by rw [List.length_append]; show _ + 1 ≤ 16777216; omega)]
  have a3 : ∀ H, opAdd H (.str ((if n < 0 then [45] else []) ++ dgs n.natAbs ++ [47])) (.str (figs (d.natAbs : Int))) = some (.str (txR n d.natAbs)) := fun H => by
    rw [opAdd_str (by rw [f2, List.length_append, List.length_append]; show _ + 1 + _ ≤ 16777216; omega), f2]
    unfold txR
    simp
  have a4 : ∀ H, opAdd H (.str (figs a)) (.str [47]) = some (.str (figs a ++ [47])) := fun H => by
    rw [opAdd_str (by show _ + 1 ≤ 16777216; omega)]
  have a5 : ∀ H, opAdd H (.str (figs a ++ [47])) (.str (figs b)) = some (.str (figs a ++ 47 :: figs b)) := fun H => by
    rw [opAdd_str (by rw [List.length_append]; show _ + 1 + _ ≤ 16777216; omega)]
    simp
  have k5 : okS (figs a ++ 47 :: figs b) = true := by rw [okS_append, okS_cons, k3, k4]; rfl
  generalize txR n d.natAbs = t at *
  generalize sgE t t.length = sg at *
  have hif : cIfE (tBl (cOp opLt (cVar 1) (cC (.int 0)))) (cC (.str [45])) (cC (.str [])) [x, some (.int n), some (.int d), some (.tup [.int a, .int b]), fine, none, none, none] h = .ok (.str (if n < 0 then [45] else [])) h := by
    by_cases hneg : n < 0
    · simp [hneg]
    · simp [hneg]
  simp only [b__law_are_ratios_due_7, sSeq_eq, sSet_eq, cOp_eq, hif, bind_ok]
  generalize (if n < 0 then [45] else [] : List Nat) = sgn at *
  simp only [List.append_assoc] at a2 a3
  simp [opStr_int l1, opStr_int l2, a1, a2, a3, b__law_are_ratios_due_8, ew, opStr_int l3, opStr_int l4, a4, a5, k5]
theorem ratios_3 (x : Option D) (n d : Int) (h : Hs) (h0 : d ≠ 0) (hn : B106 n) (hd : B106 d) :
    ∃ ys, b__law_are_ratios_due_3 [x, some (.int n), some (.int d), none, none, none, none, none] h = .ret (.bl true) (h ++ ys) := by
  have e1 := fun H => least n d H h0 hd.b
  have e2 := fun H => ratio_of n d H h0 hd.b
  have e3 := lst_isR (n := n) h0
  obtain ⟨a1, a2⟩ := lst_abs n d
  have e4 := isR_lst (n := n) h0
  have e5 := fun H => is_ratio n d H hd.b
  have e6 := fun H => is_value_ratio n d H hd.b
  generalize (lst n d).1 = a at *
  generalize (lst n d).2 = b at *
  have ha : B106 a := Nat.lt_of_le_of_lt a1 hn
  have hb : B106 b := Nat.lt_of_le_of_lt a2 hd
  have e7 := fun H => is_ratio a b H hb.b
  have e8 := fun H => is_value_ratio a b H hb.b
  rw [e3] at e7 e8
  have s1 := fun H => same_refl 5 _ H (okT_tup2 a b)
  have s2 := fun H => same_refl 5 (.lst [.bl true, .bl true]) H ⟨by simp, by
    intro x hx
    simp at hx
    subst hx
    trivial⟩
  have q := fun H => opEq_tup2 H a b n d
  rw [e4] at e5 e6
  generalize (a == n && b == d) = fb at *
  obtain ⟨ys, e9⟩ := ratios_7 x (some (.bl fb)) n d a b h h0 hn hd ha hb e3
  refine ⟨ys, ?_⟩
  rw [← e9]
  simp [b__law_are_ratios_due_3, e1, b__law_are_ratios_due_4, e2, s1, e7, e8, s2, b__law_are_ratios_due_5, q, b__law_are_ratios_due_6, e5, e6]
theorem ratios_ok (m : Nat) (h : Hs) (H : DR m h) : ∃ h', f__law_are_ratios_due [.ref m] h = .ok (.bl true) h' ∧ DR m h' := by
  obtain ⟨N1, h1, e1, p1, q1, H1⟩ := number_ok m h H
  obtain ⟨d1, h2, e2, m2, H2⟩ := pick_ok m [.int 1, .int 1, .int (-1)] (by decide) (by decide) h1 H1
  obtain ⟨s1, rfl, u1⟩ : ∃ s : Int, d1 = .int s ∧ s.natAbs = 1 := by
    simp at m2
    rcases m2 with rfl | rfl <;> exact ⟨_, rfl, by decide⟩
  obtain ⟨N2, h3, e3, p3, q3, H3⟩ := number_ok m h2 H2
  obtain ⟨d2, h4, e4, m4, H4⟩ := pick_ok m [.int 1, .int 1, .int (-1)] (by decide) (by decide) h3 H3
  obtain ⟨s2, rfl, u2⟩ : ∃ s : Int, d2 = .int s ∧ s.natAbs = 1 := by
    simp at m4
    rcases m4 with rfl | rfl <;> exact ⟨_, rfl, by decide⟩
  have k1 : mulOk N1 s1 = true := mulOk_of (by omega) (by omega)
  have k2 : mulOk N2 s2 = true := mulOk_of (by omega) (by omega)
  have b1 : (N1 * s1).natAbs < 2 ^ 103 := by rw [Int.natAbs_mul, u1]; omega
  have b2 : (N2 * s2).natAbs < 2 ^ 103 := by rw [Int.natAbs_mul, u2]; omega
  have eS : b__law_are_ratios_due [some (.ref m), none, none, none, none, none, none, none] h = b__law_are_ratios_due_1 [some (.ref m), some (.int (N1 * s1)), some (.int (N2 * s2)), none, none, none, none, none] h4 := by
    simp [b__law_are_ratios_due, e1, e2, e3, e4, opMul_int k1, opMul_int k2]
  generalize N1 * s1 = n0 at *
  generalize N2 * s2 = d0 at *
  obtain ⟨d, hd0, hdb, eS2⟩ : ∃ d : Int, d ≠ 0 ∧ d.natAbs < 2 ^ 103 ∧ b__law_are_ratios_due_1 [some (.ref m), some (.int n0), some (.int d0), none, none, none, none, none] h4 = b__law_are_ratios_due_2 [some (.ref m), some (.int n0), some (.int d), none, none, none, none, none] h4 := by
    by_cases hz : d0 = 0
    · exact ⟨7, by decide, by decide, by simp [b__law_are_ratios_due_1, hz]⟩
    · have hz2 : (d0 == 0) = false := by rw [beq_eq_false_iff_ne]; exact hz
      exact ⟨d0, hz, b2, by simp [b__law_are_ratios_due_1, hz2]⟩
  have k3 : mulOk 6 n0 = true := mulOk_of (by decide) (by omega)
  have k4 : mulOk 4 d = true := mulOk_of (by decide) (by omega)
  obtain ⟨x, h5, e5, m5, H5⟩ := pick_ok m [.tup [.int n0, .int d], .tup [.int n0, .int d], .tup [.int (-n0), .int d], .tup [.int (6 * n0), .int (4 * d)], .tup [.int d, .int d], .tup [.int 0, .int d], .tup [.int 9, .int 3], .tup [.int 10, .int 4]] (by simp) (by simp) h4 H4
  obtain ⟨n', d', rfl, g0, g1, g2⟩ : ∃ n' d' : Int, x = .tup [.int n', .int d'] ∧ d' ≠ 0 ∧ B106 n' ∧ B106 d' := by
    unfold B106
    simp at m5
    rcases m5 with rfl | rfl | rfl | rfl | rfl | rfl | rfl
    · exact ⟨_, _, rfl, hd0, by omega, by omega⟩
    · exact ⟨_, _, rfl, hd0, by omega, by omega⟩
    · exact ⟨_, _, rfl, by omega, by omega, by omega⟩
    · exact ⟨_, _, rfl, hd0, by omega, by omega⟩
    · exact ⟨_, _, rfl, hd0, by omega, by omega⟩
    · exact ⟨_, _, rfl, by decide, by decide, by decide⟩
    · exact ⟨_, _, rfl, by decide, by decide, by decide⟩
  obtain ⟨ys, e6⟩ := ratios_3 (some (.ref m)) n' d' h5 g0 g1 g2
  refine ⟨h5 ++ ys, ?_, H5.app ys⟩
  have : f__law_are_ratios_due [.ref m] h = fnEnd (b__law_are_ratios_due [some (.ref m), none, none, none, none, none, none, none] h) := rfl
  rw [this, eS, eS2]
  simp [b__law_are_ratios_due_2, opMul_int k3, opMul_int k4, e5, e6]
end K14
end
section
set_option maxRecDepth 100000
set_option autoImplicit false
set_option exponentiation.threshold 3000
/-! the law's part of rounding, the part of comparing -/
namespace K14
open PySem PySem.Spec PyProof.Rows L2 Pi
theorem div_is {x m q : Int} (hm : 0 < m) (h1 : q * m ≤ x) (h2 : x < q * m + m) : x / m = q := by
  have a1 : q ≤ x / m := (Int.le_ediv_iff_mul_le hm).mpr h1
  have a2 : x / m < q + 1 := (Int.ediv_lt_iff_lt_mul hm).mpr (by rw [Int.add_mul, Int.one_mul]; exact h2)
  omega
theorem up_eq {a b : Int} (hb : 0 < b) : -(-a / b) = if a / b * b = a then a / b else a / b + 1 := by
  have h1 := Int.ediv_mul_le a (Int.ne_of_gt hb)
  have h2 := Int.lt_ediv_add_one_mul_self a hb
  rw [Int.add_mul, Int.one_mul] at h2
  generalize a / b = q at *
  by_cases h : q * b = a
  · rw [if_pos h]
    have : -a / b = -q := div_is hb (by rw [Int.neg_mul]; omega) (by rw [Int.neg_mul]; omega)
    omega
  · rw [if_neg h]
    have e : (-q - 1) * b = -(q * b) - b := by rw [Int.sub_mul, Int.neg_mul, Int.one_mul]
    have : -a / b = -q - 1 := div_is hb (by rw [e]; omega) (by rw [e]; omega)
    omega
theorem near_eq {a b : Int} (hb : 0 < b) : nearest a b = if 2 * (a - a / b * b) < b ∨ (2 * (a - a / b * b) = b ∧ a < 0) then a / b else a / b + 1 := by
  have h1 := Int.ediv_mul_le a (Int.ne_of_gt hb)
  have h2 := Int.lt_ediv_add_one_mul_self a hb
  rw [Int.add_mul, Int.one_mul] at h2
  have e1 : ∀ q : Int, q * (2 * b) = 2 * (q * b) := fun q => by rw [Int.mul_left_comm]
  have e2 : ∀ q : Int, (q + 1) * b = q * b + b := fun q => by rw [Int.add_mul, Int.one_mul]
  have e3 : ∀ q : Int, (-q) * b = -(q * b) := fun q => by rw [Int.neg_mul]
  have e4 : ∀ q : Int, (-q - 1) * b = -(q * b) - b := fun q => by rw [Int.sub_mul, Int.neg_mul, Int.one_mul]
  unfold nearest
  generalize a / b = q at *
  by_cases ha : 0 ≤ a
  · rw [if_pos ha]
    have en : (a.natAbs : Int) = a := by omega
    rw [en]
    by_cases hr : 2 * (a - q * b) < b
    · rw [if_pos (.inl hr)]
      exact div_is (by omega) (by rw [e1]; omega) (by rw [e1]; omega)
    · rw [if_neg (by omega)]
      exact div_is (by omega) (by rw [e1, e2]; omega) (by rw [e1, e2]; omega)
  · rw [if_neg ha]
    have en : (a.natAbs : Int) = -a := by omega
    rw [en]
    by_cases hr : 2 * (a - q * b) ≤ b
    · rw [if_pos (by omega)]
      have : (2 * -a + b) / (2 * b) = -q := div_is (by omega) (by rw [e1, e3]; omega) (by rw [e1, e3]; omega)
      omega
    · rw [if_neg (by omega)]
      have : (2 * -a + b) / (2 * b) = -q - 1 := div_is (by omega) (by rw [e1, e4]; omega) (by rw [e1, e4]; omega)
      omega
theorem sign_ok (m : Nat) (h : Hs) (H : DR m h) : ∃ s h', f__law_pick [.ref m, .lst [.int 1, .int (-1)]] h = .ok (.int s) h' ∧ s.natAbs = 1 ∧ DR m h' := by
  obtain ⟨d1, h2, e2, m2, H2⟩ := pick_ok m [.int 1, .int (-1)] (by decide) (by decide) h H
  simp at m2
  rcases m2 with rfl | rfl
  · exact ⟨1, h2, e2, rfl, H2⟩
  · exact ⟨-1, h2, e2, rfl, H2⟩
theorem okT_ints3 (a b c : Int) : okT 5 (.lst [.int a, .int b, .int c]) := ⟨by simp, by
  intro x hx
  simp at hx
  rcases hx with rfl | rfl | rfl <;> trivial⟩
theorem rounded_1 (x : Option D) (a b : Int) (h : Hs) (hr : isR a b = true) (ha : a.natAbs < 2 ^ 110) (hb : b.natAbs < 2 ^ 110) :
    b__law_is_rounded_1 [x, some (.int a), some (.int b), none, none, none] h = .ret (.bl true) h := by
  have hp := isR_pos hr
  have hd := divOk_of hp (Nat.lt_trans hb (by omega))
  have hqa : (a / b).natAbs ≤ a.natAbs := by
    have h1 := Int.ediv_mul_le a (Int.ne_of_gt hp)
    have h2 := Int.lt_ediv_add_one_mul_self a hp
    by_cases h0 : 0 ≤ a
    · have := Int.ediv_nonneg h0 (Int.le_of_lt hp)
      have := Int.ediv_le_self b h0
      omega
    · have h3 : a / b < 0 := Int.ediv_neg_of_neg_of_pos (by omega) hp
      have h4 : a ≤ a / b := by
        refine (Int.le_ediv_iff_mul_le hp).mpr ?_
        have : a * b ≤ a * 1 := Int.mul_le_mul_of_nonpos_left (by omega) (by omega)
        omega
      omega
  have r1 := fun H => rounded_down a b H hr (Nat.lt_of_lt_of_le hb (by omega))
  have r2 := fun H => rounded_up a b H hr (Nat.lt_of_lt_of_le hb (by omega))
  have r3 := fun H => rounded_near a b H hr (Nat.lt_of_lt_of_le hb (by omega)) (Nat.lt_of_lt_of_le ha (by omega))
  have e1 : b__law_is_rounded_1 [x, some (.int a), some (.int b), none, none, none] h = b__law_is_rounded_2 [x, some (.int a), some (.int b), some (.int (a / b)), none, none] h := by
    simp [b__law_is_rounded_1, opFdiv_int hd]
  rw [up_eq hp] at r2
  rw [near_eq hp] at r3
  have h1 := Int.ediv_mul_le a (Int.ne_of_gt hp)
  have h2 := Int.lt_ediv_add_one_mul_self a hp
  rw [Int.add_mul, Int.one_mul] at h2
  generalize a / b = q at *
  have m1 : mulOk q b = true := mulOk_of (by omega) (by omega)
  have m2 : mulOk 2 (a - q * b) = true := mulOk_of (by decide) (by omega)
  have s1 := fun (u v w : Int) H => same_refl 5 _ H (okT_ints3 u v w)
  have near : ∀ H, cIfE (tOrI (tBl (cOp opLt (cOp opMul (cC (.int (2))) (cOp opSub (cVar 1) (cOp opMul (cVar 3) (cVar 2)))) (cVar 2))) (tAndI (tBl (cOp opEq (cOp opMul (cC (.int (2))) (cOp opSub (cVar 1) (cOp opMul (cVar 3) (cVar 2)))) (cVar 2))) (tBl (cOp opLt (cVar 1) (cC (.int (0))))))) (cVar 3) (cOp opAdd (cVar 3) (cC (.int (1)))) [x, some (.int a), some (.int b), some (.int q), none, none] H =
      .ok (.int (if 2 * (a - q * b) < b ∨ (2 * (a - q * b) = b ∧ a < 0) then q else q + 1)) H := by
    intro H
    simp [opMul_int m1, opMul_int m2]
    generalize 2 * (a - q * b) = t at *
    by_cases c1 : t < b
    · simp [c1]
    · by_cases c2 : t = b
      · subst c2
        by_cases c3 : a < 0
        · simp [c3]
        · simp [c3]
      · have c2' : (t == b) = false := by rw [beq_eq_false_iff_ne]; exact c2
        simp [c1, c2, c2']
  have up : ∀ H nr, cIfE (tBl (cOp opEq (cOp opMul (cVar 3) (cVar 2)) (cVar 1))) (cVar 3) (cOp opAdd (cVar 3) (cC (.int (1)))) [x, some (.int a), some (.int b), some (.int q), some (.int nr), none] H = .ok (.int (if q * b = a then q else q + 1)) H := by
    intro H nr
    simp [opMul_int m1]
    by_cases c1 : q * b = a
    · simp [c1]
    · have c1' : (q * b == a) = false := by rw [beq_eq_false_iff_ne]; exact c1
      simp [c1, c1']
  generalize (if 2 * (a - q * b) < b ∨ (2 * (a - q * b) = b ∧ a < 0) then q else q + 1) = nr at *
  generalize (if q * b = a then q else q + 1) = ur at *
  have e2 : b__law_is_rounded_2 [x, some (.int a), some (.int b), some (.int q), none, none] h = b__law_is_rounded_3 [x, some (.int a), some (.int b), some (.int q), some (.int nr), none] h := by
    rw [b__law_is_rounded_2, sSeq_eq, sSet_eq, near]
    simp
  rw [e1, e2, b__law_is_rounded_3]
  simp [-cIfE_eq, up, goLc_cons', r1, r2, r3, s1]
theorem lst_small {n d : Int} {B : Nat} (h1 : n.natAbs < B) (h2 : d.natAbs < B) : (lst n d).1.natAbs < B ∧ (lst n d).2.natAbs < B :=
  ⟨Nat.lt_of_le_of_lt (lst_abs n d).1 h1, Nat.lt_of_le_of_lt (lst_abs n d).2 h2⟩
theorem rounded_ok (m : Nat) (h : Hs) (H : DR m h) : ∃ h', f__law_is_rounded [.ref m] h = .ok (.bl true) h' ∧ DR m h' := by
  obtain ⟨N1, h1, e1, p1, q1, H1⟩ := number_ok m h H
  obtain ⟨s1, h2, e2, u1, H2⟩ := sign_ok m h1 H1
  obtain ⟨N2, h3, e3, p3, q3, H3⟩ := number_ok m h2 H2
  have k1 : mulOk N1 s1 = true := mulOk_of (by omega) (by omega)
  have b1 : (N1 * s1).natAbs < 2 ^ 110 := by rw [Int.natAbs_mul, u1]; omega
  have hd0 : (1 + N2) ≠ 0 := by omega
  have el := least (N1 * s1) (1 + N2) h3 hd0 (by omega)
  have er := lst_isR (n := N1 * s1) hd0
  obtain ⟨g1, g2⟩ := lst_small (B := 2 ^ 110) b1 (show (1 + N2).natAbs < 2 ^ 110 by omega)
  generalize (lst (N1 * s1) (1 + N2)).1 = a at *
  generalize (lst (N1 * s1) (1 + N2)).2 = b at *
  have e5 := rounded_1 (some (.ref m)) a b h3 er g1 g2
  refine ⟨h3, ?_, H3⟩
  simp [f__law_is_rounded, mkFn1, b__law_is_rounded, e1, e2, e3, opMul_int k1, el, e5]
end K14
end
section
set_option maxRecDepth 100000
set_option autoImplicit false
set_option exponentiation.threshold 3000
/-! the law's part of comparing -/
namespace K14
open PySem PySem.Spec PyProof.Rows L2 Pi
theorem okT_ints2 (a b : Int) : okT 5 (.lst [.int a, .int b]) := ⟨by simp, by
  intro x hx
  simp at hx
  rcases hx with rfl | rfl <;> trivial⟩
theorem okT_ints4 (a b c d : Int) : okT 5 (.lst [.int a, .int b, .int c, .int d]) := ⟨by simp, by
  intro x hx
  simp at hx
  rcases hx with rfl | rfl | rfl | rfl <;> trivial⟩
theorem sgnC_neg (l r : Int) : sgnC r l = -(sgnC l r) := by unfold sgnC; omega
theorem sgnC_self (l : Int) : sgnC l l = 0 := by unfold sgnC; omega
theorem sgn_code (l r : Int) (e : Lv) (i j : Nat) (hi : e[i]? = some (some (.int l))) (hj : e[j]? = some (some (.int r))) (h : Hs) : cOp opSub (cB opInt (aCons (cOp opGt (cVar i) (cVar j)) aNil)) (cB opInt (aCons (cOp opLt (cVar i) (cVar j)) aNil)) e h = .ok (.int (sgnC l r)) h := by
  simp [hi, hj, sgnC]
theorem compared_2 (m : Nat) (a b x y u v : Int) (h : Hs) (H : DR m h) (h1 : isR x y = true) (h2 : isR u v = true) (ha : x.natAbs < 2 ^ 110) (hb : y.natAbs < 2 ^ 110) (hc : u.natAbs < 2 ^ 110) (hd : v.natAbs < 2 ^ 110) :
    ∃ h', b__law_is_compared_2 [some (.ref m), some (.int a), some (.int b), some (.tup [.int x, .int y]), some (.tup [.int u, .int v]), none, none, none, none, none] h = .ret (.bl true) h' ∧ DR m h' := by
  have m1 : mulOk x v = true := mulOk_of (by omega) (by omega)
  have m2 : mulOk u y = true := mulOk_of (by omega) (by omega)
  have c1 := fun H => compare_ratio x y u v H h1 h2 (by omega) (by omega) (by omega) (by omega)
  have c2 := fun H => compare_ratio u v x y H h2 h1 (by omega) (by omega) (by omega) (by omega)
  have c3 := fun H => compare_ratio x y x y H h1 h1 (by omega) (by omega) (by omega) (by omega)
  rw [sgnC_neg] at c2
  rw [sgnC_self] at c3
  have e2 : b__law_is_compared_2 [some (.ref m), some (.int a), some (.int b), some (.tup [.int x, .int y]), some (.tup [.int u, .int v]), none, none, none, none, none] h =
      b__law_is_compared_3 [some (.ref m), some (.int a), some (.int b), some (.tup [.int x, .int y]), some (.tup [.int u, .int v]), some (.int (x * v)), some (.int (u * y)), none, none, none] h := by
    simp [b__law_is_compared_2, opMul_int m1, opMul_int m2]
  rw [e2]
  generalize x * v = l at *
  generalize u * y = r at *
  have e3 : b__law_is_compared_3 [some (.ref m), some (.int a), some (.int b), some (.tup [.int x, .int y]), some (.tup [.int u, .int v]), some (.int l), some (.int r), none, none, none] h =
      b__law_is_compared_4 [some (.ref m), some (.int a), some (.int b), some (.tup [.int x, .int y]), some (.tup [.int u, .int v]), some (.int l), some (.int r), some (.int (sgnC l r)), none, none] h := by
    rw [b__law_is_compared_3, sSeq_eq, sSet_eq, sgn_code l r _ 5 6 rfl rfl]
    rfl
  rw [e3]
  generalize sgnC l r = due at *
  have s2 := fun (u v : Int) H => same_refl 5 _ H (okT_ints2 u v)
  have s4 := fun (u v w z : Int) H => same_refl 5 _ H (okT_ints4 u v w z)
  obtain ⟨d1, g1, t1, p1, p2, H1⟩ := take_ok m 200001 (by decide) h H
  obtain ⟨d2, g2, t2, p3, p4, H2⟩ := take_ok m 200001 (by decide) g1 H1
  refine ⟨g2, ?_, H2⟩
  have k1 := compare_int a b g2
  have k2 := compare_money a b g2
  have k3 := compare_day d1 d2 g2 p1 (by omega) p3 (by omega)
  have e4 : b__law_is_compared_4 [some (.ref m), some (.int a), some (.int b), some (.tup [.int x, .int y]), some (.tup [.int u, .int v]), some (.int l), some (.int r), some (.int due), none, none] h =
      b__law_is_compared_7 [some (.ref m), some (.int a), some (.int b), some (.tup [.int x, .int y]), some (.tup [.int u, .int v]), some (.int l), some (.int r), some (.int due), some (.lst [.int d1, .int d2]), some (.lst [.int (sgnC a b), .int (sgnC a b), .int (sgnC d1 d2), .int 0])] g2 := by
    simp [b__law_is_compared_4, c1, c2, s2, b__law_is_compared_5, t1, t2, b__law_is_compared_6, k1, k2, k3, c3]
  rw [e4]
  have q1 := sgn_code a b [some (.ref m), some (.int a), some (.int b), some (.tup [.int x, .int y]), some (.tup [.int u, .int v]), some (.int l), some (.int r), some (.int due), some (.lst [.int d1, .int d2]), some (.lst [.int (sgnC a b), .int (sgnC a b), .int (sgnC d1 d2), .int 0])] 1 2 rfl rfl g2
  generalize sgnC a b = z1 at *
  have em : opMul g2 (.lst [.int z1]) (.int 2) = some (.lst [.int z1, .int z1]) := rfl
  have ea : opAdd g2 (.lst [.int z1, .int z1]) (.lst [.int (sgnC d1 d2), .int 0]) = some (.lst [.int z1, .int z1, .int (sgnC d1 d2), .int 0]) := rfl
  have q2 : cOp opSub (cB opInt (aCons (cOp opGt (cOp opIx (cVar 8) (cC (.int 0))) (cOp opIx (cVar 8) (cC (.int 1)))) aNil)) (cB opInt (aCons (cOp opLt (cOp opIx (cVar 8) (cC (.int 0))) (cOp opIx (cVar 8) (cC (.int 1)))) aNil)) [some (.ref m), some (.int a), some (.int b), some (.tup [.int x, .int y]), some (.tup [.int u, .int v]), some (.int l), some (.int r), some (.int due), some (.lst [.int d1, .int d2]), some (.lst [.int z1, .int z1, .int (sgnC d1 d2), .int 0])] g2 = .ok (.int (sgnC d1 d2)) g2 := by
    simp [sgnC]
  generalize sgnC d1 d2 = z2 at *
  have s5 := s4 z1 z1 z2 0 g2
  have v9 : cVar 9 [some (.ref m), some (.int a), some (.int b), some (.tup [.int x, .int y]), some (.tup [.int u, .int v]), some (.int l), some (.int r), some (.int due), some (.lst [.int d1, .int d2]), some (.lst [.int z1, .int z1, .int z2, .int 0])] g2 = .ok (.lst [.int z1, .int z1, .int z2, .int 0]) g2 := rfl
  generalize ([some (.ref m), some (.int a), some (.int b), some (.tup [.int x, .int y]), some (.tup [.int u, .int v]), some (.int l), some (.int r), some (.int due), some (.lst [.int d1, .int d2]), some (.lst [.int z1, .int z1, .int z2, .int 0])] : Lv) = e at *
  rw [b__law_is_compared_7]
  generalize cOp opSub (cB opInt (aCons (cOp opGt (cVar 1) (cVar 2)) aNil)) (cB opInt (aCons (cOp opLt (cVar 1) (cVar 2)) aNil)) = Q1 at *
  generalize cOp opSub (cB opInt (aCons (cOp opGt (cOp opIx (cVar 8) (cC (.int 0))) (cOp opIx (cVar 8) (cC (.int 1)))) aNil)) (cB opInt (aCons (cOp opLt (cOp opIx (cVar 8) (cC (.int 0))) (cOp opIx (cVar 8) (cC (.int 1)))) aNil)) = Q2 at *
  generalize cVar 9 = V9 at *
  simp [v9, q1, q2, em, ea, s5]
theorem compared_ok (m : Nat) (h : Hs) (H : DR m h) : ∃ h', f__law_is_compared [.ref m] h = .ok (.bl true) h' ∧ DR m h' := by
  obtain ⟨N1, h1, e1, p1, q1, H1⟩ := number_ok m h H
  obtain ⟨s1, h2, e2, u1, H2⟩ := sign_ok m h1 H1
  obtain ⟨N2, h3, e3, p3, q3, H3⟩ := number_ok m h2 H2
  obtain ⟨s2, h4, e4, u2, H4⟩ := sign_ok m h3 H3
  have k1 : mulOk N1 s1 = true := mulOk_of (by omega) (by omega)
  have k2 : mulOk N2 s2 = true := mulOk_of (by omega) (by omega)
  have b1 : (N1 * s1).natAbs < 2 ^ 110 := by rw [Int.natAbs_mul, u1]; omega
  have b2 : (N2 * s2).natAbs < 2 ^ 110 := by rw [Int.natAbs_mul, u2]; omega
  have eS : b__law_is_compared [some (.ref m), none, none, none, none, none, none, none, none, none] h = b__law_is_compared_1 [some (.ref m), some (.int (N1 * s1)), some (.int (N2 * s2)), none, none, none, none, none, none, none] h4 := by
    simp [b__law_is_compared, e1, e2, e3, e4, opMul_int k1, opMul_int k2]
  generalize N1 * s1 = a at *
  generalize N2 * s2 = b at *
  obtain ⟨N3, h5, e5, p5, q5, H5⟩ := number_ok m h4 H4
  have d1 : (1 + N3) ≠ 0 := by omega
  have l1 := least a (1 + N3) h5 d1 (by omega)
  have r1 := lst_isR (n := a) d1
  obtain ⟨g1, g2⟩ := lst_small (B := 2 ^ 110) b1 (show (1 + N3).natAbs < 2 ^ 110 by omega)
  obtain ⟨dd, h6, e6, m6, H6⟩ := pick_ok m [.int b, .int a] (by simp) (by simp) h5 H5
  obtain ⟨c, rfl, b3⟩ : ∃ c : Int, dd = .int c ∧ c.natAbs < 2 ^ 110 := by
    simp at m6
    rcases m6 with rfl | rfl
    · exact ⟨_, rfl, b2⟩
    · exact ⟨_, rfl, b1⟩
  obtain ⟨N4, h7, e7, p7, q7, H7⟩ := number_ok m h6 H6
  have d2 : (1 + N4) ≠ 0 := by omega
  have l2 := least c (1 + N4) h7 d2 (by omega)
  have r2 := lst_isR (n := c) d2
  obtain ⟨g3, g4⟩ := lst_small (B := 2 ^ 110) b3 (show (1 + N4).natAbs < 2 ^ 110 by omega)
  generalize (lst a (1 + N3)).1 = x at *
  generalize (lst a (1 + N3)).2 = y at *
  generalize (lst c (1 + N4)).1 = u at *
  generalize (lst c (1 + N4)).2 = v at *
  obtain ⟨h', e8, H'⟩ := compared_2 m a b x y u v h7 H7 r1 r2 g1 g2 g3 g4
  refine ⟨h', ?_, H'⟩
  have : f__law_is_compared [.ref m] h = fnEnd (b__law_is_compared [some (.ref m), none, none, none, none, none, none, none, none, none] h) := rfl
  rw [this, eS]
  simp [b__law_is_compared_1, e5, l1, e6, e7, l2, e8]
end K14
end
section
set_option maxRecDepth 100000
set_option autoImplicit false
set_option exponentiation.threshold 3000
/-! words -/
namespace K14
open PySem PySem.Spec PyProof.Rows L2 Pi
def bg (s f o : List Nat) : Bool := match s with
  | [] => false
  | c :: r => decide ((c :: r).length ≤ 16) && (f.contains c && (c :: r).all o.contains)
theorem in_all (s o : List Nat) (e : Lv) (h : Hs) (he : ∀ x : D, (e.set 3 (some x))[3]? = some (some x) ∧ (e.set 3 (some x))[2]? = some (some (.str o))) :
    goLc (gNm 3) tAll (cOp opIn (cVar 3) (cVar 2)) e (s.map fun k => D.str [k]) h = .ok (s.map fun k => .bl (o.contains k)) h := by
  induction s with
  | nil => rfl
  | cons k s ih =>
    obtain ⟨h1, h2⟩ := he (.str [k])
    rw [List.map_cons, goLc_cons']
    simp [h1, h2, ih]
theorem all_id (s o : List Nat) : (s.map fun k => o.contains k).all id = s.all o.contains := by
  rw [List.all_map]
  rfl
theorem all_code (s o : List Nat) (f : Option D) (h : Hs) (hs : s.length ≤ 1000) : cB opAll (aCons (cLc false [3] (cItStr (cVar 0)) (gNm 3) tAll (cOp opIn (cVar 3) (cVar 2))) aNil) [some (.str s), f, some (.str o), none] h = .ok (.bl (s.all o.contains)) h := by
  have ha := in_all s o [some (.str s), f, some (.str o), none] h (fun x => ⟨rfl, rfl⟩)
  have hb := blsOf_map o.contains s
  have hlc : cLc false [3] (cItStr (cVar 0)) (gNm 3) tAll (cOp opIn (cVar 3) (cVar 2)) [some (.str s), f, some (.str o), none] h = .ok (.lst (s.map fun k => .bl (o.contains k))) h := by
    rw [cLc_eq, cItStr_eq]
    have e1 : cVar 0 [some (.str s), f, some (.str o), none] h = .ok (.str s) h := rfl
    have e2 : wipeL [some (.str s), f, some (.str o), none] [3] = [some (.str s), f, some (.str o), none] := rfl
    rw [e1, bind_ok]
    dsimp only
    rw [bind_ok, if_pos (by rw [List.length_map]; show _ ≤ 16777216; omega), e2, ha]
    rfl
  rw [cB_eq, aCons_eq, hlc, bind_ok, aNil_eq, bind_ok, bind_ok, opAll_lst, hb, Option.map_some, all_id]
  rfl
theorem begins_ok (s f o : List Nat) (h : Hs) (hs : s.length ≤ 1000) : f_begins_and_goes_on [.str s, .str f, .str o] h = .ok (.bl (bg s f o)) h := by
  have hl := fun H : Hs => opLen_str (h := H) (s := s) (show s.length ≤ LIM by show _ ≤ 16777216; omega)
  cases s with
  | nil => simp [f_begins_and_goes_on, mkFn3, b_begins_and_goes_on, hl, bg]
  | cons c r =>
    have hix := fun H : Hs => opIx_str0 H c r (by omega)
    have hbg : bg (c :: r) f o = (decide ((c :: r).length ≤ 16) && (f.contains c && (c :: r).all o.contains)) := rfl
    have hac := all_code (c :: r) o (some (.str f)) h hs
    have e3 : f_begins_and_goes_on [.str (c :: r), .str f, .str o] h = fnEnd (b_begins_and_goes_on [some (.str (c :: r)), some (.str f), some (.str o), none] h) := rfl
    rw [hbg, e3]
    unfold b_begins_and_goes_on
    generalize cB opAll (aCons (cLc false [3] (cItStr (cVar 0)) (gNm 3) tAll (cOp opIn (cVar 3) (cVar 2))) aNil) = AC at *
    generalize (c :: r).all o.contains = ab at *
    by_cases h16 : (c :: r).length ≤ 16
    · have h16i : ((r.length : Int) + 1 ≤ 16) := by simp at h16; omega
      have h1i : (1 : Int) ≤ (r.length : Int) + 1 := by omega
      have h16d : decide ((c :: r).length ≤ 16) = true := by simpa using h16
      rw [h16d]
      by_cases hf : c ∈ f
      · simp [hl, hix, h16i, h1i, hf, hac]
      · simp [hl, hix, h16i, h1i, hf]
    · have h16i : ¬ ((r.length : Int) + 1 ≤ 16) := by simp at h16; omega
      have h16d : decide ((c :: r).length ≤ 16) = false := by simpa using h16
      rw [h16d]
      simp [hl, h16i]
abbrev SM : List Nat := [97, 98, 99, 100, 101, 102, 103, 104, 105, 106, 107, 108, 109, 110, 111, 112, 113, 114, 115, 116, 117, 118, 119, 120, 121, 122]
abbrev GR : List Nat := [65, 66, 67, 68, 69, 70, 71, 72, 73, 74, 75, 76, 77, 78, 79, 80, 81, 82, 83, 84, 85, 86, 87, 88, 89, 90]
abbrev FU : List Nat := [48, 49, 50, 51, 52, 53, 54, 55, 56, 57, 95]
theorem add3 (h : Hs) : opAdd h (.str SM) (.str FIG) = some (.str (SM ++ FIG)) ∧ opAdd h (.str (SM ++ FIG)) (.str [95]) = some (.str (SM ++ FU)) ∧ opAdd h (.str SM) (.str GR) = some (.str (SM ++ GR)) ∧ opAdd h (.str (SM ++ GR)) (.str FIG) = some (.str (SM ++ GR ++ FIG)) ∧
    opAdd h (.str (SM ++ GR ++ FIG)) (.str [95]) = some (.str (SM ++ GR ++ FU)) ∧ opAdd h (.str SM) (.str FU) = some (.str (SM ++ FU)) ∧ opAdd h (.str (SM ++ GR)) (.str FU) = some (.str (SM ++ GR ++ FU)) :=
  ⟨rfl, rfl, rfl, rfl, rfl, rfl, rfl⟩
theorem is_name_ok (s : List Nat) (h : Hs) (hs : s.length ≤ 1000) : f_is_name [.str s] h = .ok (.bl (bg s SM (SM ++ FU))) h := by
  have e := begins_ok s SM (SM ++ FU) h hs
  obtain ⟨a1, a2, a3, a4, a5, a6, a7⟩ := add3 h
  have e3 : f_is_name [.str s] h = fnEnd (b_is_name [some (.str s)] h) := rfl
  rw [e3]
  unfold b_is_name
  generalize SM ++ FU = o2 at *
  generalize SM ++ FIG = o1 at *
  simp [a1, a2, e]
theorem is_case_ok (s : List Nat) (h : Hs) (hs : s.length ≤ 1000) : f_is_case_word [.str s] h = .ok (.bl (bg s GR (SM ++ GR ++ FU))) h := by
  have e := begins_ok s GR (SM ++ GR ++ FU) h hs
  obtain ⟨a1, a2, a3, a4, a5, a6, a7⟩ := add3 h
  have e3 : f_is_case_word [.str s] h = fnEnd (b_is_case_word [some (.str s)] h) := rfl
  rw [e3]
  unfold b_is_case_word
  generalize SM ++ GR ++ FU = o3 at *
  generalize SM ++ GR ++ FIG = o2 at *
  generalize SM ++ GR = o1 at *
  simp [a3, a4, a5, e]
end K14
end
section
set_option maxRecDepth 100000
set_option autoImplicit false
set_option exponentiation.threshold 3000
/-! the law's part of words -/
namespace K14
open PySem PySem.Spec PyProof.Rows L2 Pi
abbrev nm (s : List Nat) : Bool := bg s SM (SM ++ FU)
abbrev cw (s : List Nat) : Bool := bg s GR (SM ++ GR ++ FU)
theorem is_path1 (a : List Nat) (h : Hs) (ha : a.length ≤ 1000) : f_is_path [.tup [.str a]] h = .ok (.bl (nm a)) h := by
  have e := is_name_ok a h ha
  have q : opIn h (.int 1) (.tup [.int 1, .int 2]) = some (.bl true) := opIn_tup _ _ h rfl rfl
  unfold nm
  generalize bg a SM (SM ++ FU) = x at *
  simp [f_is_path, mkFn1, b_is_path, q, goLc_cons', e]
theorem is_path2 (a b : List Nat) (h : Hs) (ha : a.length ≤ 1000) (hb : b.length ≤ 1000) : f_is_path [.tup [.str a, .str b]] h = .ok (.bl (nm a && nm b)) h := by
  have e := is_name_ok a h ha
  have e2 := is_name_ok b h hb
  have q : opIn h (.int 2) (.tup [.int 1, .int 2]) = some (.bl true) := opIn_tup _ _ h rfl rfl
  unfold nm
  generalize bg a SM (SM ++ FU) = x at *
  generalize bg b SM (SM ++ FU) = y at *
  simp [f_is_path, mkFn1, b_is_path, q, goLc_cons', e, e2]
/-! ### a word drawn -/
abbrev PL : List Nat := [97, 98, 121, 122, 48, 57, 95, 65, 90]
abbrev OD : List Nat := [96, 123, 64, 91, 47, 58, 94, 32, 45, 46, 33, 9, 10]
def wB2 : IS := sSet 3 (cOp opAdd (cVar 3) (cIfE (tBl (cOp opEq (cCall f__law_take (aCons (cVar 0) (aCons (cC (.int 12)) aNil))) (cC (.int 0)))) (cOp opIx (cVar 2) (cCall f__law_take (aCons (cVar 0) (aCons (cB opLen (aCons (cVar 2) aNil)) aNil)))) (cOp opIx (cVar 1) (cCall f__law_take (aCons (cVar 0) (aCons (cB opLen (aCons (cVar 1) aNil)) aNil))))))
theorem okS_snoc {s : List Nat} {k : Nat} (h : okS s = true) (hk : k < 0x110000) : okS (s ++ [k]) = true := by
  rw [okS_append, h, okS_cons]
  simpa using hk
theorem sign_of (l : List Nat) (hl : okS l = true) (hn : l.length ≤ 1000) (v : Int) (v0 : 0 ≤ v) (v1 : v < l.length) (h : Hs) : ∃ k, opIx h (.str l) (.int v) = some (.str [k]) ∧ k < 0x110000 := by
  obtain ⟨i, rfl⟩ := Int.eq_ofNat_of_zero_le v0
  have hi : i < l.length := by omega
  refine ⟨l[i], ?_, ?_⟩
  · show (if l.length ≤ LIM then (atD l (i : Int)).map fun k => D.str [k] else none) = _
    rw [if_pos (by show _ ≤ 16777216; omega), atD_nat, List.getElem?_eq_getElem hi]
    rfl
  · have := List.all_eq_true.mp hl l[i] (List.getElem_mem hi)
    simpa using this
theorem word_turn (m : Nat) (s : List Nat) (t : Option D) (h : Hs) (H : DR m h) (hs : okS s = true) (hl : s.length ≤ 900) :
    ∃ s' h', wB2 [some (.ref m), some (.str PL), some (.str OD), some (.str s), t] h = .next [some (.ref m), some (.str PL), some (.str OD), some (.str s'), t] h' ∧ DR m h' ∧ okS s' = true ∧ s'.length = s.length + 1 := by
  obtain ⟨v, h1, e1, v0, v1, H1⟩ := take_ok m 12 (by decide) h H
  by_cases hv : v = 0
  · subst hv
    obtain ⟨u, h2, e2, u0, u1, H2⟩ := take_ok m 13 (by decide) h1 H1
    obtain ⟨k, ek, hk⟩ := sign_of OD (by decide) (by decide) u u0 (by simpa using u1) h2
    have ol : opLen h1 [.str OD] = some (.int 13) := opLen_str (by decide)
    have ea : opAdd h2 (.str s) (.str [k]) = some (.str (s ++ [k])) := opAdd_str (by show _ + 1 ≤ 16777216; omega)
    refine ⟨s ++ [k], h2, ?_, H2, okS_snoc hs hk, by simp⟩
    generalize OD = od at *
    simp [wB2, e1, ol, e2, ek, ea]
  · have hv2 : (v == 0) = false := by rw [beq_eq_false_iff_ne]; exact hv
    obtain ⟨u, h2, e2, u0, u1, H2⟩ := take_ok m 9 (by decide) h1 H1
    obtain ⟨k, ek, hk⟩ := sign_of PL (by decide) (by decide) u u0 (by simpa using u1) h2
    have ol : opLen h1 [.str PL] = some (.int 9) := opLen_str (by decide)
    have ea : opAdd h2 (.str s) (.str [k]) = some (.str (s ++ [k])) := opAdd_str (by show _ + 1 ≤ 16777216; omega)
    refine ⟨s ++ [k], h2, ?_, H2, okS_snoc hs hk, by simp⟩
    generalize PL = pl at *
    simp [wB2, e1, hv2, ol, e2, ek, ea]
theorem word_loop (m : Nat) : ∀ (ds : List D) (s : List Nat) (t : Option D) (h : Hs), DR m h → okS s = true → s.length + ds.length ≤ 900 →
    ∃ s' t' h', cFor ds (gNm 4) wB2 [some (.ref m), some (.str PL), some (.str OD), some (.str s), t] h = .next [some (.ref m), some (.str PL), some (.str OD), some (.str s'), t'] h' ∧ DR m h' ∧ okS s' = true ∧ s'.length = s.length + ds.length
  | [], s, t, h, H, hs, hl => ⟨s, t, h, rfl, H, hs, rfl⟩
  | d :: ds, s, t, h, H, hs, hl => by
    obtain ⟨s1, h1, e1, H1, k1, l1⟩ := word_turn m s (some d) h H hs (by omega)
    rw [List.length_cons] at hl
    obtain ⟨s2, t2, h2, e2, H2, k2, l2⟩ := word_loop m ds s1 (some d) h1 H1 k1 (by omega)
    refine ⟨s2, t2, h2, ?_, H2, k2, by rw [List.length_cons]; omega⟩
    rw [cFor_cons]
    have e0 : gNm 4 d [some (.ref m), some (.str PL), some (.str OD), some (.str s), t] h = some [some (.ref m), some (.str PL), some (.str OD), some (.str s), some d] := rfl
    rw [e0]
    dsimp only
    rw [e1]
    exact e2
theorem word_ok (m : Nat) (h : Hs) (H : DR m h) : ∃ s h', f__law_word [.ref m] h = .ok (.str s) h' ∧ DR m h' ∧ okS s = true ∧ s.length ≤ 17 := by
  obtain ⟨d, h1, e1, m1, H1⟩ := pick_ok m [.str [], .str [97], .str [122], .str [65], .str [90], .str [109], .str [66], .str [95], .str [57]] (by decide) (by decide) h H
  obtain ⟨s, rfl, s1, s2⟩ : ∃ s : List Nat, d = .str s ∧ okS s = true ∧ s.length ≤ 1 := by
    simp at m1
    rcases m1 with rfl | rfl | rfl | rfl | rfl | rfl | rfl | rfl | rfl <;> exact ⟨_, rfl, by decide, by decide⟩
  obtain ⟨d, h2, e2, m2, H2⟩ := pick_ok m [.int 0, .int 1, .int 2, .int 5, .int 14, .int 15, .int 16] (by decide) (by decide) h1 H1
  obtain ⟨z, rfl, z0, z1⟩ : ∃ z : Int, d = .int z ∧ 0 ≤ z ∧ z ≤ 16 := by
    simp at m2
    rcases m2 with rfl | rfl | rfl | rfl | rfl | rfl | rfl <;> exact ⟨_, rfl, by decide, by decide⟩
  have hr : rgOk z = true := by
    unfold rgOk
    simp
    omega
  obtain ⟨k, hk⟩ : ∃ k, k = z.toNat := ⟨_, rfl⟩
  have k2 : k ≤ 16 := by omega
  have hil : (intsD 0 k).length = k := by simp [intsD]
  obtain ⟨s', t', h3, e3, H3, k3, l3⟩ := word_loop m (intsD 0 k) s none h2 H2 s1 (by rw [hil]; omega)
  refine ⟨s', h3, ?_, H3, k3, by rw [hil] at l3; omega⟩
  have e4 : f__law_word [.ref m] h = fnEnd (b__law_word [some (.ref m), none, none, none, none] h) := rfl
  have ec : cRng1 (aCons (cCall f__law_pick (aCons (cVar 0) (aCons (cLst (aCons (cC (.int (0))) (aCons (cC (.int (1))) (aCons (cC (.int (2))) (aCons (cC (.int (5))) (aCons (cC (.int (14))) (aCons (cC (.int (15))) (aCons (cC (.int (16))) aNil)))))))) aNil))) aNil) [some (.ref m), some (.str PL), some (.str OD), some (.str s), none] h1 = .ok (intsD 0 k) h2 := by
    unfold cRng1
    simp [e2, hr, hk]
  rw [e4]
  unfold b__law_word
  unfold wB2 at e3
  simp [e1, ec, e3]
end K14
end
section
set_option maxRecDepth 100000
set_option autoImplicit false
set_option exponentiation.threshold 3000
/-! the law's part of words, the whole -/
namespace K14
open PySem PySem.Spec PyProof.Rows L2 Pi
theorem same_ref (k : Nat) (xs : List D) (n : Nat) (h : Hs) (hn : h[n]? = some (.lst xs)) (hl : xs.length ≤ 1000) (hx : ∀ x ∈ xs, okT k x) : f__law_same (k + 1) [.lst xs, .ref n] h = .ok (.bl true) h := by
  have e0 : f__law_same (k + 1) = mkFn 2 4 (b__law_same (f__law_same k)) := rfl
  have hr : rgOk (xs.length : Int) = true := by
    unfold rgOk
    simp
    omega
  have hk := lk_ref hn
  have ho := opLen_ref hn
  have hg : goLc (gNm 3) tAll (cCall (f__law_same k) (aCons (cOp opIx (cVar 0) (cVar 3)) (aCons (cOp opIx (cVar 1) (cVar 3)) aNil))) [some (.lst xs), some (.ref n), none, none] (intsD 0 xs.length) h = .ok ((intsD 0 xs.length).map fun _ => .bl true) h := by
    refine goLc_map _ fun d hd => ?_
    obtain ⟨i, rfl, hi⟩ := intsD_mem hd
    refine ⟨_, rfl, rfl, ?_⟩
    have ea : atD xs ((i : Nat) : Int) = some xs[i] := by rw [atD_nat, List.getElem?_eq_getElem hi]
    have eb : opIx h (.ref n) (.int ((i : Nat) : Int)) = some xs[i] := by
      show (match lk h (.ref n) with | .lst ds => atD ds ((i : Nat) : Int) | .lsq ds => atD ds ((i : Nat) : Int) | .tup ds => atD ds ((i : Nat) : Int) | .str cs => if cs.length ≤ LIM then (atD cs ((i : Nat) : Int)).map fun k => D.str [k] else none | _ => none) = _
      rw [hk]
      exact ea
    have es := same_refl k xs[i] h (hx _ (List.getElem_mem hi))
    generalize ((i : Nat) : Int) = z at *
    simp [ea, eb, es]
  have hb := blsOf_map (fun _ : D => true) (intsD 0 xs.length)
  have hli : (intsD 0 xs.length).length ≤ 16777216 := by simp [intsD]; omega
  rw [e0]
  simp [mkFn2, b__law_same, hk, ho, hr, hli, hg, hb]
/-! ### a word judged -/
theorem keep_go (o : List Nat) (a : IE) (e : Lv) (h : Hs) (hl : e.length = 13) (ho : ∀ (x : D), a (e.set 11 (some x)) h = .ok (.str o) h) (s : List Nat) :
    goLc (gNm 11) (tBl (cOp opNotIn (cVar 11) a)) (cVar 11) e (s.map fun k => D.str [k]) h = .ok ((s.filter fun k => !o.contains k).map fun k => D.str [k]) h := by
  induction s with
  | nil => rfl
  | cons j s ih =>
    have hv : (e.set 11 (some (.str [j])))[11]? = some (some (.str [j])) := by rw [List.getElem?_set_self (by simp [hl])]
    have hcv : cVar 11 (e.set 11 (some (.str [j]))) h = .ok (.str [j]) h := by rw [cVar_eq, hv]
    rw [List.map_cons, goLc_cons', gNm_eq]
    dsimp only
    rw [tBl_eq, cOp_eq, hcv, bind_ok, ho, bind_ok, opNotIn_str, ofO_s, blB_ok, noX_ok, bind_ok, hcv, noX_ok, bind_ok, ih, bind_ok, List.filter_cons]
    cases o.contains j <;> rfl
theorem keep_code (s o : List Nat) (a : IE) (e : Lv) (h : Hs) (hs : s.length ≤ 1000) (h6 : e[6]? = some (some (.str s))) (hl : e.length = 13)
    (ho : ∀ (x : D), a ((e.set 11 none).set 11 (some x)) h = .ok (.str o) h) :
    cLc false [11] (cItStr (cVar 6)) (gNm 11) (tBl (cOp opNotIn (cVar 11) a)) (cVar 11) e h = .ok (.lst ((s.filter fun k => !o.contains k).map fun k => D.str [k])) h := by
  have hcv : cVar 6 e h = .ok (.str s) h := by rw [cVar_eq, h6]
  have e2 : wipeL e [11] = e.set 11 none := rfl
  rw [cLc_eq, cItStr_eq, hcv, bind_ok]
  dsimp only
  rw [bind_ok, if_pos (by rw [List.length_map]; show _ ≤ 16777216; omega), e2, keep_go o a (e.set 11 none) h (by rw [List.length_set]; exact hl) ho s]
  rfl
theorem lay_strs : ∀ l : List Nat, okS l = true → layL (l.map fun k => D.str [k]) = true ∧ depL (l.map fun k => D.str [k]) = 0
  | [], _ => ⟨rfl, rfl⟩
  | k :: l, h => by
    rw [okS_cons, Bool.and_eq_true] at h
    obtain ⟨a, b⟩ := lay_strs l h.2
    constructor
    · show (lay (.str [k]) && layL (l.map fun k => D.str [k])) = true
      rw [a, Bool.and_true]
      show ([k].all (· < 0x110000)) = true
      simpa using h.1
    · show max (dep (.str [k])) (depL (l.map fun k => D.str [k])) = 0
      rw [b]
      rfl
theorem opEq_nil (l : List Nat) (hl : okS l = true) (h : Hs) : opEq h (.lst (l.map fun k => D.str [k])) (.lst []) = some (.bl l.isEmpty) := by
  obtain ⟨a, b⟩ := lay_strs l hl
  have ok1 : okD (.lst (l.map fun k => D.str [k])) = true := by
    show (layL (l.map fun k => D.str [k]) && decide (depL (l.map fun k => D.str [k]) + 1 ≤ 64)) = true
    rw [a, b]
    rfl
  show (if okD (.lst (l.map fun k => D.str [k])) && okD (.lst []) then some (D.bl (eqdL (l.map fun k => D.str [k]) [])) else none) = _
  rw [ok1]
  cases l <;> rfl
theorem filter_empty (s o : List Nat) : (s.filter fun k => !o.contains k).isEmpty = s.all o.contains := by
  induction s with
  | nil => rfl
  | cons k s ih =>
    rw [List.filter_cons, List.all_cons]
    cases o.contains k with
    | false => rfl
    | true => simpa using ih
theorem okS_filter (s : List Nat) (p : Nat → Bool) (h : okS s = true) : okS (s.filter p) = true := by
  unfold okS at *
  rw [List.all_eq_true] at *
  exact fun x hx => h x (List.mem_filter.mp hx).1
/-- fine and word[0] in first and [..] == [] -/
theorem judge (s f o : List Nat) (F A : IE) (e : Lv) (h : Hs) (hs : s.length ≤ 1000) (hok : okS s = true) (h6 : e[6]? = some (some (.str s))) (h7 : e[7]? = some (some (.bl (decide (1 ≤ s.length ∧ s.length ≤ 16))))) (hl : e.length = 13)
    (hF : F e h = .ok (.str f) h) (ho : ∀ (x : D), A ((e.set 11 none).set 11 (some x)) h = .ok (.str o) h) :
    cAndV (cVar 7) (cAndV (cOp opIn (cOp opIx (cVar 6) (cC (.int 0))) F) (cOp opEq (cLc false [11] (cItStr (cVar 6)) (gNm 11) (tBl (cOp opNotIn (cVar 11) A)) (cVar 11)) (cLst aNil))) e h = .ok (.bl (bg s f o)) h := by
  have hcv : cVar 6 e h = .ok (.str s) h := by rw [cVar_eq, h6]
  have hcv7 : cVar 7 e h = .ok (.bl (decide (1 ≤ s.length ∧ s.length ≤ 16))) h := by rw [cVar_eq, h7]
  have hkc := keep_code s o A e h hs h6 hl ho
  have heq := opEq_nil (s.filter fun k => !o.contains k) (okS_filter s _ hok) h
  rw [filter_empty] at heq
  have hcl : cLst aNil e h = .ok (.lst []) h := rfl
  rw [cAndV_eq, hcv7, bind_ok]
  cases s with
  | nil => rfl
  | cons c r =>
    have hix := opIx_str0 h c r (by omega)
    by_cases h16 : (c :: r).length ≤ 16
    · have hd : decide (1 ≤ (c :: r).length ∧ (c :: r).length ≤ 16) = true := by simp at h16 ⊢; omega
      have hbg : bg (c :: r) f o = (decide ((c :: r).length ≤ 16) && (f.contains c && (c :: r).all o.contains)) := rfl
      have h16d : decide ((c :: r).length ≤ 16) = true := by simpa using h16
      rw [hd, tru_bl, ofO_s, bind_ok, cond_true, cAndV_eq, cOp_eq, cOp_eq, hcv, bind_ok, cC_eq, bind_ok, hix, ofO_s, bind_ok, hF, bind_ok, opIn_str, ofO_s, bind_ok, tru_bl, ofO_s, bind_ok, hbg, h16d, Bool.true_and]
      cases f.contains c with
      | false => rfl
      | true =>
        rw [cond_true, cOp_eq, hkc, bind_ok, hcl, bind_ok, heq, Bool.true_and]
        rfl
    · have hd : decide (1 ≤ (c :: r).length ∧ (c :: r).length ≤ 16) = false := by simp at h16 ⊢; omega
      have hbg : bg (c :: r) f o = (decide ((c :: r).length ≤ 16) && (f.contains c && (c :: r).all o.contains)) := rfl
      have h16d : decide ((c :: r).length ≤ 16) = false := by simpa using h16
      rw [hd, hbg, h16d]
      rfl
end K14
end
section
set_option maxRecDepth 100000
set_option autoImplicit false
set_option exponentiation.threshold 3000
/-! the law's part of words, the end -/
namespace K14
open PySem PySem.Spec PyProof.Rows L2 Pi
abbrev eW (m : Nat) (wl : Option D) (k : Nat) (w t7 t8 : Option D) : Lv := [some (.ref m), some (.str SM), some (.str GR), some (.str FU), wl, some (.ref k), w, t7, t8, none, none, none, none]
def J1 : IE := cAndV (cVar 7) (cAndV (cOp opIn (cOp opIx (cVar 6) (cC (.int 0))) (cVar 1)) (cOp opEq (cLc false [11] (cItStr (cVar 6)) (gNm 11) (tBl (cOp opNotIn (cVar 11) (cOp opAdd (cVar 1) (cVar 3)))) (cVar 11)) (cLst aNil)))
def J2 : IE := cAndV (cVar 7) (cAndV (cOp opIn (cOp opIx (cVar 6) (cC (.int 0))) (cVar 2)) (cOp opEq (cLc false [11] (cItStr (cVar 6)) (gNm 11) (tBl (cOp opNotIn (cVar 11) (cOp opAdd (cOp opAdd (cVar 1) (cVar 2)) (cVar 3)))) (cVar 11)) (cLst aNil)))
def wW : IS := sSeq (sSet 7 (cChain opLe opLe (cC (.int 1)) (cB opLen (aCons (cVar 6) aNil)) (cC (.int 16)))) (sSeq (sSet 8 J1) (sExpr (cMt isLs opAppend (cVar 5) (aCons (cTup (aCons (cVar 8) (aCons J2 aNil))) aNil))))
theorem fine_code (w : List Nat) (hs : w.length ≤ 1000) (e : Lv) (h : Hs) (h6 : e[6]? = some (some (.str w))) : cChain opLe opLe (cC (.int 1)) (cB opLen (aCons (cVar 6) aNil)) (cC (.int 16)) e h = .ok (.bl (decide (1 ≤ w.length ∧ w.length ≤ 16))) h := by
  have hcv : cVar 6 e h = .ok (.str w) h := by rw [cVar_eq, h6]
  have hl : opLen h [.str w] = some (.int w.length) := opLen_str (by show _ ≤ 16777216; omega)
  by_cases h1 : (1 : Int) ≤ (w.length : Int)
  · by_cases h2 : (w.length : Int) ≤ 16
    · have hd : decide (1 ≤ w.length ∧ w.length ≤ 16) = true := by simp; omega
      rw [hd]
      simp [-cVar_eq, hcv, hl, h1, h2]
    · have hd : decide (1 ≤ w.length ∧ w.length ≤ 16) = false := by simp; omega
      rw [hd]
      simp [-cVar_eq, hcv, hl, h1, h2]
  · have hd : decide (1 ≤ w.length ∧ w.length ≤ 16) = false := by simp; omega
    rw [hd]
    simp [-cVar_eq, hcv, hl, h1]
theorem word_judged (m : Nat) (wl : Option D) (h : Hs) (ds : List D) (w : List Nat) (t7 t8 : Option D) (hs : w.length ≤ 1000) (hok : okS w = true) (hds : ds.length ≤ 1000) :
    wW (eW m wl h.length (some (.str w)) t7 t8) (h ++ [.lst ds]) = .next (eW m wl h.length (some (.str w)) (some (.bl (decide (1 ≤ w.length ∧ w.length ≤ 16)))) (some (.bl (nm w)))) (h ++ [.lst (ds ++ [.tup [.bl (nm w), .bl (cw w)]])]) := by
  obtain ⟨a1, a2, a3, a4, a5, a6, a7⟩ := add3 (h ++ [.lst ds])
  have e1 := fine_code w hs (eW m wl h.length (some (.str w)) t7 t8) (h ++ [.lst ds]) rfl
  have j1 : J1 (eW m wl h.length (some (.str w)) (some (.bl (decide (1 ≤ w.length ∧ w.length ≤ 16)))) t8) (h ++ [.lst ds]) = .ok (.bl (nm w)) (h ++ [.lst ds]) :=
    judge w SM (SM ++ FU) (cVar 1) (cOp opAdd (cVar 1) (cVar 3)) _ _ hs hok rfl rfl rfl rfl fun x => by
      show ofO (opAdd (h ++ [.lst ds]) (.str SM) (.str FU)) (h ++ [.lst ds]) = _
      rw [a6]
      rfl
  have j2 : J2 (eW m wl h.length (some (.str w)) (some (.bl (decide (1 ≤ w.length ∧ w.length ≤ 16)))) (some (.bl (nm w)))) (h ++ [.lst ds]) = .ok (.bl (cw w)) (h ++ [.lst ds]) :=
    judge w GR (SM ++ GR ++ FU) (cVar 2) (cOp opAdd (cOp opAdd (cVar 1) (cVar 2)) (cVar 3)) _ _ hs hok rfl rfl rfl rfl fun x => by
      show ((ofO (opAdd (h ++ [.lst ds]) (.str SM) (.str GR)) (h ++ [.lst ds])).bind fun x h1 => (R.ok (D.str FU) h1).bind fun y h2 => ofO (opAdd h2 x y) h2) = _
      rw [a3, ofO_s, bind_ok, bind_ok, a7]
      rfl
  have ha := app_last h ds (.tup [.bl (nm w), .bl (cw w)]) (by show _ < 16777216; omega)
  have hls := isLs_last h ds
  unfold wW
  rw [sSeq_eq, sSet_eq, e1, toS_ok, rs_next]
  generalize nm w = n1 at *
  generalize cw w = c1 at *
  generalize decide (1 ≤ w.length ∧ w.length ≤ 16) = f1 at *
  have s7 : (eW m wl h.length (some (.str w)) t7 t8).set 7 (some (.bl f1)) = eW m wl h.length (some (.str w)) (some (.bl f1)) t8 := rfl
  rw [s7, sSeq_eq, sSet_eq, j1, toS_ok, rs_next]
  have s8 : (eW m wl h.length (some (.str w)) (some (.bl f1)) t8).set 8 (some (.bl n1)) = eW m wl h.length (some (.str w)) (some (.bl f1)) (some (.bl n1)) := rfl
  rw [s8]
  generalize J2 = j at *
  simp [ha, hls, j2]
end K14
end
section
set_option maxRecDepth 100000
set_option autoImplicit false
set_option exponentiation.threshold 3000
/-! the law's part of words, the end -/
namespace K14
open PySem PySem.Spec PyProof.Rows L2 Pi
theorem atD_3 {α : Type} (x y z w : α) (l : List α) : atD (x :: y :: z :: w :: l) 3 = some w := rfl
theorem one_more (h : Hs) (ds : List D) (m : Nat) (wl : Option D) (w : List Nat) (rest : List D) (t6 t7 t8 : Option D) (hs : w.length ≤ 1000) (hok : okS w = true) (hds : ds.length ≤ 1000) :
    cFor (.str w :: rest) (gNm 6) wW (eW m wl h.length t6 t7 t8) (h ++ [.lst ds]) = cFor rest (gNm 6) wW (eW m wl h.length (some (.str w)) (some (.bl (decide (1 ≤ w.length ∧ w.length ≤ 16)))) (some (.bl (nm w)))) (h ++ [.lst (ds ++ [.tup [.bl (nm w), .bl (cw w)]])]) := by
  rw [cFor_cons]
  have e0 : gNm 6 (.str w) (eW m wl h.length t6 t7 t8) (h ++ [.lst ds]) = some (eW m wl h.length (some (.str w)) t7 t8) := rfl
  rw [e0]
  dsimp only
  rw [word_judged m wl h ds w t7 t8 hs hok hds]
abbrev jT (w : List Nat) : D := .tup [.bl (nm w), .bl (cw w)]
theorem okT_jT (w : List Nat) : okT 4 (jT w) := ⟨by simp, by
  intro x hx
  simp at hx
  rcases hx with rfl | rfl <;> trivial⟩
theorem okT_bl4 (a b c d : Bool) : okT 5 (.lst [.bl a, .bl b, .bl c, .bl d]) := ⟨by simp, by
  intro x hx
  simp at hx
  rcases hx with rfl | rfl | rfl | rfl <;> trivial⟩
theorem words_3 (m : Nat) (h : Hs) (H : DR m h) (a b c d : List Nat) (oa : okS a = true) (ob : okS b = true) (oc : okS c = true) (od : okS d = true) (la : a.length ≤ 1000) (lb : b.length ≤ 1000) (lc : c.length ≤ 1000) (ld : d.length ≤ 1000) :
    ∃ h', b__law_are_words_due_3 (eW m (some (.lst [.str a, .str b, .str c, .str d])) h.length none none none) (h ++ [.lst []]) = .ret (.bl true) h' ∧ DR m h' := by
  obtain ⟨t7, t8, e3⟩ : ∃ t7 t8, b__law_are_words_due_3 (eW m (some (.lst [.str a, .str b, .str c, .str d])) h.length none none none) (h ++ [.lst []]) = b__law_are_words_due_4 (eW m (some (.lst [.str a, .str b, .str c, .str d])) h.length (some (.str d)) t7 t8) (h ++ [.lst [jT a, jT b, jT c, jT d]]) := by
    refine ⟨some (.bl (decide (1 ≤ d.length ∧ d.length ≤ 16))), some (.bl (nm d)), ?_⟩
    have ec : cSeq (cVar 4) (eW m (some (.lst [.str a, .str b, .str c, .str d])) h.length none none none) (h ++ [.lst []]) = .ok [.str a, .str b, .str c, .str d] (h ++ [.lst []]) := rfl
    have el : cFor [.str a, .str b, .str c, .str d] (gNm 6) wW (eW m (some (.lst [.str a, .str b, .str c, .str d])) h.length none none none) (h ++ [.lst []]) = .next (eW m (some (.lst [.str a, .str b, .str c, .str d])) h.length (some (.str d)) (some (.bl (decide (1 ≤ d.length ∧ d.length ≤ 16)))) (some (.bl (nm d)))) (h ++ [.lst [jT a, jT b, jT c, jT d]]) := by
      rw [one_more h [] m _ a _ _ _ _ la oa (by simp), one_more h _ m _ b _ _ _ _ lb ob (by simp), one_more h _ m _ c _ _ _ _ lc oc (by simp), one_more h _ m _ d _ _ _ _ ld od (by simp), cFor_nil]
      rfl
    have eu : b__law_are_words_due_3 = sSeq (sFor (cSeq (cVar 4)) (gNm 6) wW) b__law_are_words_due_4 := rfl
    rw [eu, sSeq_eq, sFor_eq, ec, toS_ok, el, rs_next]
  rw [e3]
  have hl := get_last h (.lst [jT a, jT b, jT c, jT d])
  have hsame := same_ref 4 [jT a, jT b, jT c, jT d] h.length (h ++ [.lst [jT a, jT b, jT c, jT d]]) hl (by simp) (by
    intro x hx
    simp only [List.mem_cons, List.not_mem_nil, or_false] at hx
    rcases hx with rfl | rfl | rfl | rfl <;> exact okT_jT _)
  have na := fun H => is_name_ok a H la
  have nb := fun H => is_name_ok b H lb
  have nc := fun H => is_name_ok c H lc
  have nd := fun H => is_name_ok d H ld
  have ca := fun H => is_case_ok a H la
  have cb := fun H => is_case_ok b H lb
  have cc := fun H => is_case_ok c H lc
  have cd := fun H => is_case_ok d H ld
  have p1 := fun H => is_path1 a H la
  have p2 := fun H => is_path2 a b H la lb
  have p3 := fun H => is_path2 c [97] H lc (by decide)
  have p4 := fun H => is_path2 [97] d H (by decide) ld
  have hA : nm [97] = true := by decide
  rw [hA] at p3 p4
  have hfr := frz_ref hl
  rw [set_last] at hfr
  have s4 := fun (x y z u : Bool) H => same_refl 5 _ H (okT_bl4 x y z u)
  refine ⟨h ++ [.fz (.lst [jT a, jT b, jT c, jT d])], ?_, H.app _⟩
  have e4 : b__law_are_words_due_4 (eW m (some (.lst [.str a, .str b, .str c, .str d])) h.length (some (.str d)) t7 t8) (h ++ [.lst [jT a, jT b, jT c, jT d]]) = b__law_are_words_due_5 (eW m (some (.lst [.str a, .str b, .str c, .str d])) h.length (some (.str d)) t7 t8) (h ++ [.lst [jT a, jT b, jT c, jT d]]) := by
    generalize h ++ [Ent.lst [jT a, jT b, jT c, jT d]] = H2 at *
    unfold jT nm cw at hsame
    generalize bg a SM (SM ++ FU) = x1 at *
    generalize bg b SM (SM ++ FU) = x2 at *
    generalize bg c SM (SM ++ FU) = x3 at *
    generalize bg d SM (SM ++ FU) = x4 at *
    generalize bg a GR (SM ++ GR ++ FU) = y1 at *
    generalize bg b GR (SM ++ GR ++ FU) = y2 at *
    generalize bg c GR (SM ++ GR ++ FU) = y3 at *
    generalize bg d GR (SM ++ GR ++ FU) = y4 at *
    unfold eW
    generalize SM = sm at *
    generalize GR = gr at *
    generalize FU = fu at *
    simp [b__law_are_words_due_4, goLc_cons', na, nb, nc, nd, ca, cb, cc, cd, hsame]
  rw [e4]
  have e5 : b__law_are_words_due_5 (eW m (some (.lst [.str a, .str b, .str c, .str d])) h.length (some (.str d)) t7 t8) (h ++ [.lst [jT a, jT b, jT c, jT d]]) =
      b__law_are_words_due_6 ((eW m (some (.lst [.str a, .str b, .str c, .str d])) h.length (some (.str d)) t7 t8).set 9 (some (.lst [.bl (nm a), .bl (nm b), .bl (nm c), .bl (nm d)]))) (h ++ [.fz (.lst [jT a, jT b, jT c, jT d])]) := by
    unfold eW
    generalize SM = sm at *
    generalize GR = gr at *
    generalize FU = fu at *
    simp [b__law_are_words_due_5, hfr, goLc_cons', jT]
  rw [e5]
  generalize h ++ [Ent.fz (.lst [jT a, jT b, jT c, jT d])] = H2 at *
  generalize nm a = x1 at *
  generalize nm b = x2 at *
  generalize nm c = x3 at *
  generalize nm d = x4 at *
  unfold eW
  cases x1 <;> simp [b__law_are_words_due_6, atD_3, p1, p2, p3, p4, s4]
theorem words_ok (m : Nat) (h : Hs) (H : DR m h) : ∃ h', f__law_are_words_due [.ref m] h = .ok (.bl true) h' ∧ DR m h' := by
  obtain ⟨a, h1, e1, H1, oa, la⟩ := word_ok m h H
  obtain ⟨b, h2, e2, H2, ob, lb⟩ := word_ok m h1 H1
  obtain ⟨c, h3, e3, H3, oc, lc⟩ := word_ok m h2 H2
  obtain ⟨d, h4, e4, H4, od, ld⟩ := word_ok m h3 H3
  obtain ⟨h', e5, H'⟩ := words_3 m h4 H4 a b c d oa ob oc od (by omega) (by omega) (by omega) (by omega)
  refine ⟨h', ?_, H'⟩
  have e0 : f__law_are_words_due [.ref m] h = fnEnd (b__law_are_words_due [some (.ref m), none, none, none, none, none, none, none, none, none, none, none, none] h) := rfl
  have hi : intsD 0 4 = [.int 0, .int 1, .int 2, .int 3] := rfl
  rw [e0]
  unfold eW at e5
  simp [b__law_are_words_due, b__law_are_words_due_1, b__law_are_words_due_2, rgOk, hi, goLc_cons', e1, e2, e3, e4, e5]
end K14
end
section
set_option maxRecDepth 100000
set_option autoImplicit false
set_option exponentiation.threshold 3000
/-! the draws are laid -/
namespace K14
open PySem PySem.Spec PyProof.Rows L2 Pi
theorem cFor_step {tg : TGI} {f : IS} {d : D} {ds : List D} {e e1 e2 : Lv} {h h2 : Hs} (h1 : tg d e h = some e1) (h3 : f e1 h = .next e2 h2) : cFor (d :: ds) tg f e h = cFor ds tg f e2 h2 := by
  rw [cFor_cons, h1]
  dsimp only
  rw [h3]
abbrev dI (ds : List Int) : Ent := .lst (ds.map D.int)
theorem appI (h : Hs) (ds : List Int) (y : Int) (hl : ds.length ≤ 1000000) : opAppend (h ++ [dI ds]) (.ref h.length) [.int y] = .ok .non (h ++ [dI (ds ++ [y])]) := by
  have := app_last h (ds.map D.int) (.int y) (by rw [List.length_map]; show _ < 16777216; omega)
  rw [this]
  simp
theorem isLsI (h : Hs) (ds : List Int) : isLs (h ++ [dI ds]) (.ref h.length) = true := isLs_last h _
def K60 : IS := sIf (tBl (cOp opGt (cVar 3) (cC (.int 0)))) (sSeq (sExpr (cMt isLs opAppend (cVar 1) (aCons (cOp opMod (cB opInt (aCons (cVar 3) aNil)) (cC (.int 997))) aNil))) (sSet 3 (cOp opFdiv (cVar 3) (cC (.int 997))))) sNil
theorem k60_turn (h : Hs) (S c f t5 sd : Option D) (N : Int) (ds : List Int) (hl : ds.length ≤ 1000000) : ∃ N' ds', K60 [S, some (.ref h.length), c, some (.int N), f, t5, sd] (h ++ [dI ds]) = .next [S, some (.ref h.length), c, some (.int N'), f, t5, sd] (h ++ [dI ds']) ∧ ds'.length ≤ ds.length + 1 := by
  by_cases hN : 0 < N
  · have ha := appI h ds (N % 997) hl
    have hi := isLsI h ds
    have hd : divOk 997 = true := by decide
    refine ⟨N / 997, ds ++ [N % 997], ?_, by simp⟩
    generalize dI (ds ++ [N % 997]) = d2 at *
    generalize dI ds = d1 at *
    simp [K60, hN, opMod_int, opFdiv_int hd, hi, ha]
  · exact ⟨N, ds, by simp [K60, hN], by omega⟩
theorem k60_loop (h : Hs) (S c f sd : Option D) : ∀ (ls : List D) (t5 : Option D) (N : Int) (ds : List Int), ds.length + ls.length ≤ 1000000 → ∃ t5' N' ds', cFor ls (gNm 5) K60 [S, some (.ref h.length), c, some (.int N), f, t5, sd] (h ++ [dI ds]) = .next [S, some (.ref h.length), c, some (.int N'), f, t5', sd] (h ++ [dI ds']) ∧ ds'.length ≤ ds.length + ls.length
  | [], t5, N, ds, hl => ⟨t5, N, ds, rfl, by simp⟩
  | d :: ls, t5, N, ds, hl => by
    rw [List.length_cons] at hl
    obtain ⟨N1, d1, e1, l1⟩ := k60_turn h S c f (some d) sd N ds (by omega)
    obtain ⟨t2, N2, d2, e2, l2⟩ := k60_loop h S c f sd ls (some d) N1 d1 (by omega)
    refine ⟨t2, N2, d2, ?_, by rw [List.length_cons]; omega⟩
    rw [cFor_cons]
    have e0 : gNm 5 d [S, some (.ref h.length), c, some (.int N), f, t5, sd] (h ++ [dI ds]) = some [S, some (.ref h.length), c, some (.int N), f, some d, sd] := rfl
    rw [e0]
    dsimp only
    rw [e1]
    exact e2
def A18 : IS := sSeq (sSet 4 (cOp opMod (cB opInt (aCons (cOp opAdd (cOp opMul (cVar 3) (cC (.int 48271))) (cC (.int 11))) aNil)) (cC (.int 2147483647)))) (sSeq (sExpr (cMt isLs opAppend (cVar 1) (aCons (cOp opMod (cB opInt (aCons (cOp opAdd (cOp opMul (cVar 4) (cC (.int 69621))) (cVar 3)) aNil)) (cC (.int 2147483629))) aNil))) (sSeq (sExpr (cMt isLs opAppend (cVar 1) (aCons (cOp opMod (cB opInt (aCons (cOp opAdd (cVar 4) (cOp opFdiv (cVar 3) (cC (.int 7)))) aNil)) (cC (.int 1000003))) aNil))) (sSet 3 (cC (.int 0)))))
theorem mulOk_small (i j : Int) (h1 : -(2 ^ 64) < j) (h2 : j < 2 ^ 64) : mulOk i j = true := by
  unfold mulOk
  simp only [Bool.or_eq_true, Bool.and_eq_true, decide_eq_true_eq]
  exact .inr (.inl ⟨h1, h2⟩)
theorem a18_ok (h : Hs) (S c f t5 sd : Option D) (N : Int) (ds : List Int) (hl : ds.length ≤ 900000) : ∃ f' ds', A18 [S, some (.ref h.length), c, some (.int N), f, t5, sd] (h ++ [dI ds]) = .next [S, some (.ref h.length), c, some (.int 0), f', t5, sd] (h ++ [dI ds']) ∧ ds'.length ≤ ds.length + 2 := by
  have m1 := mulOk_small N 48271 (by decide) (by decide)
  have m2 := fun z => mulOk_small z 69621 (by decide) (by decide)
  have hd : divOk 7 = true := by decide
  obtain ⟨F, hF⟩ : ∃ F, F = (N * 48271 + 11) % 2147483647 := ⟨_, rfl⟩
  obtain ⟨y1, hy1⟩ : ∃ y, y = (F * 69621 + N) % 2147483629 := ⟨_, rfl⟩
  obtain ⟨y2, hy2⟩ : ∃ y, y = (F + N / 7) % 1000003 := ⟨_, rfl⟩
  have ha := appI h ds y1 (by omega)
  have hb := appI h (ds ++ [y1]) y2 (by simp; omega)
  have i1 := isLsI h ds
  have i2 := isLsI h (ds ++ [y1])
  refine ⟨some (.int F), ds ++ [y1] ++ [y2], ?_, by simp⟩
  generalize dI (ds ++ [y1] ++ [y2]) = g3 at *
  generalize dI (ds ++ [y1]) = g2 at *
  generalize dI ds = g1 at *
  simp [A18, opMul_int m1, opMod_int, ← hF, i1, opMul_int (m2 F), ← hy1, ha, i2, opFdiv_int hd, ← hy2, hb]
def CB : IS := sSeq (sSet 3 (cOp opMod (cB opInt (aCons (cB opAbs (aCons (cVar 2) aNil)) aNil)) (cOp opPow (cC (.int 997)) (cC (.int 60))))) (sSeq (sIf (tBl (cOp opLt (cVar 3) (cOp opPow (cC (.int 10)) (cC (.int 18))))) A18 sNil) (sFor (cRng1 (aCons (cC (.int 60)) aNil)) (gNm 5) K60))
theorem cell_turn (h : Hs) (S t3 f t5 sd : Option D) (z : Int) (ds : List Int) (hl : ds.length ≤ 800000) : ∃ t3' f' t5' ds', CB [S, some (.ref h.length), some (.int z), t3, f, t5, sd] (h ++ [dI ds]) = .next [S, some (.ref h.length), some (.int z), t3', f', t5', sd] (h ++ [dI ds']) ∧ ds'.length ≤ ds.length + 62 := by
  obtain ⟨Pw, hP⟩ : ∃ Pw : Int, Pw = 997 ^ (60 : Nat) := ⟨_, rfl⟩
  have hPp : 0 < Pw := by rw [hP]; decide
  have ep : ∀ H, opPow H (.int 997) (.int 60) = some (.int Pw) := fun H => by rw [hP]; rfl
  have eq18 : ∀ H, opPow H (.int 10) (.int 18) = some (.int 1000000000000000000) := fun H => rfl
  obtain ⟨N, hN⟩ : ∃ N, N = ((z.natAbs : Nat) : Int) % Pw := ⟨_, rfl⟩
  have e1 : CB [S, some (.ref h.length), some (.int z), t3, f, t5, sd] (h ++ [dI ds]) = (sSeq (sIf (tBl (cOp opLt (cVar 3) (cOp opPow (cC (.int 10)) (cC (.int 18))))) A18 sNil) (sFor (cRng1 (aCons (cC (.int 60)) aNil)) (gNm 5) K60)) [S, some (.ref h.length), some (.int z), some (.int N), f, t5, sd] (h ++ [dI ds]) := by
    unfold CB
    generalize dI ds = g1
    rw [sSeq_eq, sSet_eq]
    simp [ep, opMod_int hPp, ← hN]
  have hil : (intsD 0 60).length = 60 := by simp [intsD]
  have fin : ∀ (M : Int) (f' : Option D) (ds2 : List Int), ds2.length ≤ ds.length + 2 → ∃ t3' t5' ds', (sFor (cRng1 (aCons (cC (.int 60)) aNil)) (gNm 5) K60) [S, some (.ref h.length), some (.int z), some (.int M), f', t5, sd] (h ++ [dI ds2]) = .next [S, some (.ref h.length), some (.int z), t3', f', t5', sd] (h ++ [dI ds']) ∧ ds'.length ≤ ds.length + 62 := by
    intro M f' ds2 l2
    obtain ⟨t5', N', ds', e, l⟩ := k60_loop h S (some (.int z)) f' sd (intsD 0 60) t5 M ds2 (by rw [hil]; omega)
    refine ⟨some (.int N'), t5', ds', ?_, by rw [hil] at l; omega⟩
    rw [← e]
    simp [rgOk]
  rw [e1]
  by_cases h18 : N < 1000000000000000000
  · obtain ⟨f', ds2, e2, l2⟩ := a18_ok h S (some (.int z)) f t5 sd N ds (by omega)
    obtain ⟨t3', t5', ds', e3, l3⟩ := fin 0 f' ds2 l2
    refine ⟨t3', f', t5', ds', ?_, l3⟩
    generalize sFor (cRng1 (aCons (cC (.int 60)) aNil)) (gNm 5) K60 = LP at *
    simp [eq18, h18, e2, e3]
  · obtain ⟨t3', t5', ds', e3, l3⟩ := fin N f ds (by omega)
    refine ⟨t3', f, t5', ds', ?_, l3⟩
    generalize sFor (cRng1 (aCons (cC (.int 60)) aNil)) (gNm 5) K60 = LP at *
    simp [eq18, h18, e3]
theorem cell_loop (h : Hs) (S sd : Option D) (zs : List Int) : ∀ (t2 t3 f t5 : Option D) (ds : List Int) (n : Nat), n = zs.length → ds.length + 62 * n ≤ 700000 → ∃ t2' t3' f' t5' ds', cFor (zs.map D.int) (gNm 2) CB [S, some (.ref h.length), t2, t3, f, t5, sd] (h ++ [dI ds]) = .next [S, some (.ref h.length), t2', t3', f', t5', sd] (h ++ [dI ds']) ∧ ds'.length ≤ ds.length + 62 * n := by
  induction zs with
  | nil =>
    intro t2 t3 f t5 ds n hn hl
    exact ⟨t2, t3, f, t5, ds, rfl, Nat.le_add_right _ _⟩
  | cons z zs ih =>
    intro t2 t3 f t5 ds n hn hl
    obtain ⟨k, rfl⟩ : ∃ k, n = k + 1 := ⟨zs.length, hn⟩
    have hk : k = zs.length := by rw [List.length_cons] at hn; omega
    obtain ⟨a1, a2, a3, d1, e1, l1⟩ := cell_turn h S t3 f t5 sd z ds (by omega)
    obtain ⟨b1, b2, b3, b4, d2, e2, l2⟩ := ih (some (.int z)) a1 a2 a3 d1 k hk (by omega)
    refine ⟨b1, b2, b3, b4, d2, ?_, by omega⟩
    have e0 : gNm 2 (.int z) [S, some (.ref h.length), t2, t3, f, t5, sd] (h ++ [dI ds]) = some [S, some (.ref h.length), some (.int z), t3, f, t5, sd] := rfl
    rw [List.map_cons, cFor_step e0 e1]
    exact e2
def SB : IS := sSeq (sSet 6 (cOp opMod (cB opInt (aCons (cOp opAdd (cOp opMul (cVar 6) (cC (.int 48271))) (cC (.int 69621))) aNil)) (cC (.int 2147483647)))) (sExpr (cMt isLs opAppend (cVar 1) (aCons (cOp opFdiv (cVar 6) (cC (.int 5))) aNil)))
theorem seed_turn (h : Hs) (S t2 t3 f t5 : Option D) (z : Int) (ds : List Int) (hl : ds.length ≤ 1000000) : ∃ z' ds', SB [S, some (.ref h.length), t2, t3, f, t5, some (.int z)] (h ++ [dI ds]) = .next [S, some (.ref h.length), t2, t3, f, t5, some (.int z')] (h ++ [dI ds']) ∧ ds'.length = ds.length + 1 := by
  have m1 := mulOk_small z 48271 (by decide) (by decide)
  have hd : divOk 5 = true := by decide
  obtain ⟨F, hF⟩ : ∃ F, F = (z * 48271 + 69621) % 2147483647 := ⟨_, rfl⟩
  have ha := appI h ds (F / 5) hl
  have i1 := isLsI h ds
  refine ⟨F, ds ++ [F / 5], ?_, by simp⟩
  generalize dI (ds ++ [F / 5]) = g2 at *
  generalize dI ds = g1 at *
  simp [SB, opMul_int m1, opMod_int, ← hF, opFdiv_int hd, i1, ha]
theorem seed_loop (h : Hs) (S t2 t3 f : Option D) : ∀ (ls : List D) (t5 : Option D) (z : Int) (ds : List Int), ds.length + ls.length ≤ 1000000 → ∃ t5' z' ds', cFor ls (gNm 5) SB [S, some (.ref h.length), t2, t3, f, t5, some (.int z)] (h ++ [dI ds]) = .next [S, some (.ref h.length), t2, t3, f, t5', some (.int z')] (h ++ [dI ds'])
  | [], t5, z, ds, hl => ⟨t5, z, ds, rfl⟩
  | d :: ls, t5, z, ds, hl => by
    rw [List.length_cons] at hl
    obtain ⟨z1, d1, e1, l1⟩ := seed_turn h S t2 t3 f (some d) z ds (by omega)
    obtain ⟨t2', z2, d2, e2⟩ := seed_loop h S t2 t3 f ls (some d) z1 d1 (by omega)
    refine ⟨t2', z2, d2, ?_⟩
    rw [cFor_cons]
    have e0 : gNm 5 d [S, some (.ref h.length), t2, t3, f, t5, some (.int z)] (h ++ [dI ds]) = some [S, some (.ref h.length), t2, t3, f, some d, some (.int z)] := rfl
    rw [e0]
    dsimp only
    rw [e1]
    exact e2
end K14
end
section
set_option maxRecDepth 100000
set_option autoImplicit false
set_option exponentiation.threshold 3000
/-! the law -/
namespace K14
open PySem PySem.Spec PyProof.Rows L2 Pi
theorem dr_1 (h : Hs) (S : List D) (a1 a2 a3 a4 : Option D) (d1 : List Int)
    (e1 : cFor S (gNm 2) CB [some (.lsq S), some (.ref h.length), none, none, none, none, none] (h ++ [dI []]) = .next [some (.lsq S), some (.ref h.length), a1, a2, a3, a4, none] (h ++ [dI d1])) :
    b__law_draws [some (.lsq S), none, none, none, none, none, none] h = b__law_draws_2 [some (.lsq S), some (.ref h.length), a1, a2, a3, a4, none] (h ++ [dI d1]) := by
  have ec : cSeq (cVar 0) [some (.lsq S), some (.ref h.length), none, none, none, none, none] (h ++ [dI []]) = .ok S (h ++ [dI []]) := rfl
  have eu : b__law_draws_1 = sSeq (sFor (cSeq (cVar 0)) (gNm 2) CB) b__law_draws_2 := rfl
  have ev : b__law_draws [some (.lsq S), none, none, none, none, none, none] h = b__law_draws_1 [some (.lsq S), some (.ref h.length), none, none, none, none, none] (h ++ [dI []]) := by
    rw [b__law_draws, sSeq_eq]
    simp
    rfl
  rw [ev, eu, sSeq_eq, sFor_eq, ec, toS_ok, e1, rs_next]
theorem dr_2 (h : Hs) (zs : List Int) (r a1 a2 a3 a4 : Option D) : ∃ z, b__law_draws_2 [some (.lsq (zs.map D.int)), r, a1, a2, a3, a4, none] h = b__law_draws_4 [some (.lsq (zs.map D.int)), r, a1, a2, a3, a4, some (.int z)] h := by
  cases zs with
  | nil => exact ⟨1, by simp [b__law_draws_2, b__law_draws_3]⟩
  | cons z zs =>
    obtain ⟨y, hy⟩ : ∃ y : Int, y = ((z.natAbs : Nat) : Int) := ⟨_, rfl⟩
    refine ⟨1 + y, ?_⟩
    have hp : (0 : Int) < (zs.length : Int) + 1 := by omega
    simp [b__law_draws_2, b__law_draws_3, hp, ← hy]
theorem dr_3 (h h2 : Hs) (S r a1 a2 a3 a4 t5 : Option D) (z z2 : Int) (e2 : cFor (intsD 0 9000) (gNm 5) SB [S, r, a1, a2, a3, a4, some (.int z)] h = .next [S, r, a1, a2, a3, t5, some (.int z2)] h2) :
    b__law_draws_4 [S, r, a1, a2, a3, a4, some (.int z)] h = b__law_draws_5 [S, r, a1, a2, a3, t5, some (.int z2)] h2 := by
  have eu : b__law_draws_4 = sSeq (sFor (cRng1 (aCons (cC (.int 9000)) aNil)) (gNm 5) SB) b__law_draws_5 := rfl
  have er : cRng1 (aCons (cC (.int 9000)) aNil) [S, r, a1, a2, a3, a4, some (.int z)] h = .ok (intsD 0 9000) h := by
    have q : aCons (cC (.int 9000)) aNil [S, r, a1, a2, a3, a4, some (.int z)] h = .ok [.int 9000] h := rfl
    rw [cRng1_eq 9000 q, if_pos (by decide)]
    rfl
  rw [eu, sSeq_eq, sFor_eq, er, toS_ok, e2, rs_next]
theorem dr_4 (h : Hs) (S a1 a2 a3 t5 t6 : Option D) (d2 : List Int) : b__law_draws_5 [S, some (.ref h.length), a1, a2, a3, t5, t6] (h ++ [dI d2]) = .ret (.ref (h ++ [dI d2]).length) ((h ++ [dI d2]) ++ [dI d2.reverse]) := by
  have hlk := lk_last h (d2.map D.int)
  have er : cLstRev true (cVar 1) [S, some (.ref h.length), a1, a2, a3, t5, t6] (h ++ [dI d2]) = .ok (.ref (h ++ [dI d2]).length) ((h ++ [dI d2]) ++ [dI d2.reverse]) := by
    show (match lk (h ++ [dI d2]) (.ref h.length) with | .lst ds => finLc true ds.reverse (h ++ [dI d2]) | _ => R.bad) = _
    rw [hlk]
    have q : dI d2.reverse = Ent.lst (d2.map D.int).reverse := by rw [← List.map_reverse]
    rw [q]
    rfl
  have eu : b__law_draws_5 = sRet (cLstRev true (cVar 1)) := rfl
  rw [eu, sRet_eq, er]
  rfl
theorem draws_ok (zs : List Int) (hz : zs.length ≤ 1000) (h : Hs) : ∃ m h', f__law_draws [.lsq (zs.map D.int)] h = .ok (.ref m) h' ∧ DR m h' := by
  obtain ⟨n, hn⟩ : ∃ n, n = zs.length := ⟨_, rfl⟩
  obtain ⟨a1, a2, a3, a4, d1, e1, l1⟩ := cell_loop h (some (.lsq (zs.map D.int))) none zs none none none none [] n hn (by simp; omega)
  have es1 := dr_1 h (zs.map D.int) a1 a2 a3 a4 d1 e1
  obtain ⟨z, es2⟩ := dr_2 (h ++ [dI d1]) zs (some (.ref h.length)) a1 a2 a3 a4
  obtain ⟨t5, z2, d2, e2⟩ := seed_loop h (some (.lsq (zs.map D.int))) a1 a2 a3 (intsD 0 9000) a4 z d1 (by
    have hil : (intsD 0 9000).length = 9000 := by simp [intsD]
    rw [hil]
    simp at l1
    omega)
  have es3 := dr_3 _ _ _ _ _ _ _ _ _ _ _ e2
  have es4 := dr_4 h (some (.lsq (zs.map D.int))) a1 a2 a3 t5 (some (.int z2)) d2
  refine ⟨(h ++ [dI d2]).length, (h ++ [dI d2]) ++ [dI d2.reverse], ?_, ⟨d2.reverse, get_last _ _⟩⟩
  have e0 : f__law_draws [.lsq (zs.map D.int)] h = fnEnd (b__law_draws [some (.lsq (zs.map D.int)), none, none, none, none, none, none] h) := rfl
  rw [e0, es1, es2, es3, es4]
  rfl
/-! ### refusals -/
@[simp] theorem sTry_eq (ct : Nat → Option Bool) (b s : IS) (e : Lv) (h : Hs) : sTry ct b s e h = match b e h with
  | .exc k p e1 h1 => match ct k with
    | some true => s e1 h1
    | some false => .exc k p e1 h1
    | none => .bad
  | r => r := rfl
theorem isR_93 : isR 9 3 = false := by decide
theorem isR_02 : isR 0 2 = false := by decide
theorem isR_12 : isR 1 2 = true := by decide
theorem isR_11 : isR 1 1 = true := by decide
theorem refused_0 (x y : D) (h : Hs) (he : f_ratio_of [x, y] h = .exc 0 none h) : f__law_is_refused [.int 0, x, y] h = .ok (.bl true) h := by
  have ec : cCallV [("ratio_of", f_ratio_of), ("rounded", f_rounded)] (cOp opIx (cLst (aCons (cC (.glo "ratio_of")) (aCons (cC (.glo "rounded")) aNil))) (cVar 0)) (aCons (cVar 1) (aCons (cVar 2) aNil)) [some (.int 0), some x, some y] h = .exc 0 none h := he
  have e0 : f__law_is_refused [.int 0, x, y] h = fnEnd (b__law_is_refused [some (.int 0), some x, some y] h) := rfl
  rw [e0]
  unfold b__law_is_refused
  simp [ec, ct_NotRight]
theorem refused_1 (x y : D) (h : Hs) (he : f_rounded [x, y] h = .exc 0 none h) : f__law_is_refused [.int 1, x, y] h = .ok (.bl true) h := by
  have ec : cCallV [("ratio_of", f_ratio_of), ("rounded", f_rounded)] (cOp opIx (cLst (aCons (cC (.glo "ratio_of")) (aCons (cC (.glo "rounded")) aNil))) (cVar 0)) (aCons (cVar 1) (aCons (cVar 2) aNil)) [some (.int 1), some x, some y] h = .exc 0 none h := he
  have e0 : f__law_is_refused [.int 1, x, y] h = fnEnd (b__law_is_refused [some (.int 1), some x, some y] h) := rfl
  rw [e0]
  unfold b__law_is_refused
  simp [ec, ct_NotRight]
theorem refused_2 (x y : D) (h : Hs) (he : f_compare_values [x, y] h = .exc 0 none h) : f__law_is_refused [.int 2, x, y] h = .ok (.bl true) h := by
  have e0 : f__law_is_refused [.int 2, x, y] h = fnEnd (b__law_is_refused [some (.int 2), some x, some y] h) := rfl
  rw [e0]
  unfold b__law_is_refused
  simp [he, ct_NotRight]
/-! ### the law -/
def LB : IS := sIf (tOrI (tNotI (tV (cCall f__law_are_ratios_due (aCons (cVar 1) aNil)))) (tOrI (tNotI (tV (cCall f__law_is_rounded (aCons (cVar 1) aNil)))) (tOrI (tNotI (tV (cCall f__law_is_compared (aCons (cVar 1) aNil)))) (tNotI (tV (cCall f__law_are_words_due (aCons (cVar 1) aNil))))))) (sRet (cC (.bl false))) sNil
theorem law_turn (m : Nat) (h : Hs) (H : DR m h) (S t2 t3 t4 t5 t6 : Option D) : ∃ h', LB [S, some (.ref m), t2, t3, t4, t5, t6] h = .next [S, some (.ref m), t2, t3, t4, t5, t6] h' ∧ DR m h' := by
  obtain ⟨h1, e1, H1⟩ := ratios_ok m h H
  obtain ⟨h2, e2, H2⟩ := rounded_ok m h1 H1
  obtain ⟨h3, e3, H3⟩ := compared_ok m h2 H2
  obtain ⟨h4, e4, H4⟩ := words_ok m h3 H3
  refine ⟨h4, ?_, H4⟩
  simp [LB, e1, e2, e3, e4]
theorem law_loop (m : Nat) (S t3 t4 t5 t6 : Option D) : ∀ (ls : List D) (t2 : Option D) (h : Hs), DR m h → ∃ t2' h', cFor ls (gNm 2) LB [S, some (.ref m), t2, t3, t4, t5, t6] h = .next [S, some (.ref m), t2', t3, t4, t5, t6] h' ∧ DR m h'
  | [], t2, h, H => ⟨t2, h, rfl, H⟩
  | d :: ls, t2, h, H => by
    obtain ⟨h1, e1, H1⟩ := law_turn m h H S (some d) t3 t4 t5 t6
    obtain ⟨t, h2, e2, H2⟩ := law_loop m S t3 t4 t5 t6 ls (some d) h1 H1
    have e0 : gNm 2 d [S, some (.ref m), t2, t3, t4, t5, t6] h = some [S, some (.ref m), some d, t3, t4, t5, t6] := rfl
    exact ⟨t, h2, by rw [cFor_step e0 e1]; exact e2, H2⟩
abbrev bad9 : List D := [.tup [.int 0, .int 1, .int 0], .tup [.int 0, .bl true, .int 2], .tup [.int 0, .int 1, .bl false], .tup [.int 0, .non, .int 1], .tup [.int 1, .tup [.int 9, .int 3], sUp], .tup [.int 1, .tup [.int 0, .int 2], sDown], .tup [.int 1, .tup [.int 1, .int 2], .str [102, 97, 114]], .tup [.int 2, .tup [sRatio, .tup [.int 9, .int 3]], .tup [sRatio, .tup [.int 1, .int 2]]], .tup [.int 2, .int 1, .tup [sRatio, .tup [.int 1, .int 1]]]]
theorem law_23 (h : Hs) (S r t2 : Option D) : b_law_2 [S, r, t2, none, none, none, none] h = b_law_4 [S, r, t2, some (.lst bad9), none, none, none] h := by
  have r1 := refused_0 (.int 1) (.int 0) h (ratio_of_0 1 h)
  have r2 := refused_0 (.bl true) (.int 2) h (ratio_of_b2 _ _ h)
  have r3 := refused_0 (.int 1) (.bl false) h (ratio_of_b1 _ _ h)
  have r4 := refused_0 .non (.int 1) h (ratio_of_n _ h)
  have r5 := refused_1 (.tup [.int 9, .int 3]) sUp h (rounded_refused 9 3 _ h (by decide) isR_93)
  have r6 := refused_1 (.tup [.int 0, .int 2]) sDown h (rounded_refused 0 2 _ h (by decide) isR_02)
  have r7 := refused_1 (.tup [.int 1, .int 2]) (.str [102, 97, 114]) h (rounded_far 1 2 h (by decide) isR_12)
  have r8 := refused_2 (.tup [sRatio, .tup [.int 9, .int 3]]) (.tup [sRatio, .tup [.int 1, .int 2]]) h (compare_refused 9 3 _ h (by decide) isR_93)
  have r9 := refused_2 (.int 1) (.tup [sRatio, .tup [.int 1, .int 1]]) h (compare_mixed 1 1 1 h (by decide) isR_11)
  have e2 : b_law_2 [S, r, t2, none, none, none, none] h = b_law_3 [S, r, t2, some (.lst bad9), none, none, none] h := by
    simp [b_law_2]
  have en : opNe h (.lst []) (.lst []) = some (.bl false) := rfl
  rw [e2]
  simp [b_law_3, goLc_cons', r1, r2, r3, r4, r5, r6, r7, r8, r9, en]
abbrev rows4 : List D := [.tup [.tup [.int 1, .int 3], .tup [.int 1, .int 2], .int (-1)], .tup [.tup [.int (-1), .int 3], .tup [.int (-1), .int 2], .int 1], .tup [.tup [.int 2, .int 3], .tup [.int 3, .int 5], .int 1], .tup [.tup [.int 7, .int 5], .tup [.int 7, .int 5], .int 0]]
theorem law_45 (h : Hs) (S r t2 t3 : Option D) : b_law_4 [S, r, t2, t3, none, none, none] h = .ret (.bl true) h := by
  have e4 : b_law_4 [S, r, t2, t3, none, none, none] h = b_law_5 [S, r, t2, t3, some (.lst rows4), none, none] h := by
    simp [b_law_4]
  have c1 := compare_ratio 1 3 1 2 h (by decide) (by decide) (by decide) (by decide) (by decide) (by decide)
  have c2 := compare_ratio (-1) 3 (-1) 2 h (by decide) (by decide) (by decide) (by decide) (by decide) (by decide)
  have c3 := compare_ratio 2 3 3 5 h (by decide) (by decide) (by decide) (by decide) (by decide) (by decide)
  have c4 := compare_ratio 7 5 7 5 h (by decide) (by decide) (by decide) (by decide) (by decide) (by decide)
  have eq0 : opEq h (.lst []) (.lst []) = some (.bl true) := rfl
  have er := ratio_of 10 (-4) h (by decide) (by decide)
  have el : lst 10 (-4) = (-5, 2) := by decide
  rw [el] at er
  have et := opEq_tup2 h (-5) 2 (-5) 2
  have s1 : sgnC (1 * 2) (1 * 3) = -1 := by decide
  have s2 : sgnC (-1 * 2) (-1 * 3) = 1 := by decide
  have s3 : sgnC (2 * 5) (3 * 3) = 1 := by decide
  have s4 : sgnC (7 * 5) (7 * 5) = 0 := by decide
  rw [s1] at c1
  rw [s2] at c2
  rw [s3] at c3
  rw [s4] at c4
  rw [e4]
  simp [b_law_5, goLc_cons', c1, c2, c3, c4, eq0, er, et]
theorem law_ok (zs : List Int) (hz : zs.length ≤ 1000) (h : Hs) : ∃ h', f_law [.lsq (zs.map D.int)] h = .ok (.bl true) h' := by
  obtain ⟨m, h1, e1, H1⟩ := draws_ok zs hz h
  obtain ⟨t2, h2, e2, H2⟩ := law_loop m (some (.lsq (zs.map D.int))) none none none none (intsD 0 12) none h1 H1
  refine ⟨h2, ?_⟩
  have e0 : f_law [.lsq (zs.map D.int)] h = fnEnd (b_law [some (.lsq (zs.map D.int)), none, none, none, none, none, none] h) := rfl
  have eb : b_law [some (.lsq (zs.map D.int)), none, none, none, none, none, none] h = b_law_1 [some (.lsq (zs.map D.int)), some (.ref m), none, none, none, none, none] h1 := by
    simp [b_law, e1]
  have er : cRng1 (aCons (cC (.int 12)) aNil) [some (.lsq (zs.map D.int)), some (.ref m), none, none, none, none, none] h1 = .ok (intsD 0 12) h1 := by
    have q : aCons (cC (.int 12)) aNil [some (.lsq (zs.map D.int)), some (.ref m), none, none, none, none, none] h1 = .ok [.int 12] h1 := rfl
    rw [cRng1_eq 12 q, if_pos (by decide)]
    rfl
  have eu : b_law_1 = sSeq (sFor (cRng1 (aCons (cC (.int 12)) aNil)) (gNm 2) LB) b_law_2 := rfl
  rw [e0, eb, eu, sSeq_eq, sFor_eq, er, toS_ok, e2, rs_next, law_23, law_45]
  rfl
end K14
end
section
set_option maxRecDepth 100000
set_option autoImplicit false
/-! the law's promise -/
namespace K14
open PySem PySem.Spec PyProof.Rows L2 Pi
theorem rep_ints {c : Cn} {g : G} : ∀ ns : List Int, RepL c g (ns.map V.int) (ns.map D.int)
  | [] => .nil
  | n :: ns => .cons (.int n) (rep_ints ns)
theorem law_sp {c : Cn} (H : Hp) (a : Addr) (ns : List Int) (hl : ns.length ≤ 63) (ho : Only H) (hS : SqL c.K H a (ns.map V.int)) : spI c f_law [.ref a] H (fun v _ => v = .bl true) fun _ _ _ => False := by
  obtain ⟨h', e⟩ := law_ok ns (by omega) []
  refine ⟨⟨H, [], fun _ => none⟩, [.lsq (ns.map D.int)], [], ⟨rfl, List.nodup_nil, fun a o e => e, fun n a e h1 _ => by simp at h1, fun a o e => by cases e⟩, .cons (.lsq hS (rep_ints ns)) .nil, ?_⟩
  rw [e]
  intro g' v H' _ _ r
  cases r
  rfl
end K14
end
section
set_option maxRecDepth 100000
set_option maxHeartbeats 0
set_option autoImplicit false
namespace K14
open PySem PySem.Spec PyProof.Rows L2 Pi HeadK14
def dd__law_draws : He.DefD := ⟨("_law_draws", none), "_law_draws", "_law_draws", defArgs s__law_draws, defBody s__law_draws, defScope s__law_draws, [], []⟩
def dd__law_take : He.DefD := ⟨("_law_take", none), "_law_take", "_law_take", defArgs s__law_take, defBody s__law_take, defScope s__law_take, [], []⟩
def dd__law_pick : He.DefD := ⟨("_law_pick", none), "_law_pick", "_law_pick", defArgs s__law_pick, defBody s__law_pick, defScope s__law_pick, [], []⟩
def dd__law_number : He.DefD := ⟨("_law_number", none), "_law_number", "_law_number", defArgs s__law_number, defBody s__law_number, defScope s__law_number, [], []⟩
def dd__law_common : He.DefD := ⟨("_law_common", none), "_law_common", "_law_common", defArgs s__law_common, defBody s__law_common, defScope s__law_common, [], []⟩
def dd__law_least : He.DefD := ⟨("_law_least", none), "_law_least", "_law_least", defArgs s__law_least, defBody s__law_least, defScope s__law_least, [], []⟩
def dd_is_integer : He.DefD := ⟨("is_integer", none), "is_integer", "is_integer", defArgs s_is_integer, defBody s_is_integer, defScope s_is_integer, [], []⟩
def dd_check : He.DefD := ⟨("check", none), "check", "check", defArgs s_check, defBody s_check, defScope s_check, [], []⟩
def dd_greatest_part : He.DefD := ⟨("greatest_part", none), "greatest_part", "greatest_part", defArgs s_greatest_part, defBody s_greatest_part, defScope s_greatest_part, [], []⟩
def dd_ratio_by : He.DefD := ⟨("ratio_by", none), "ratio_by", "ratio_by", defArgs s_ratio_by, defBody s_ratio_by, defScope s_ratio_by, [], []⟩
def dd_ratio_of : He.DefD := ⟨("ratio_of", none), "ratio_of", "ratio_of", defArgs s_ratio_of, defBody s_ratio_of, defScope s_ratio_of, [], []⟩
def dd__law_same : He.DefD := ⟨("_law_same", none), "_law_same", "_law_same", defArgs s__law_same, defBody s__law_same, defScope s__law_same, [], []⟩
def dd_is_ratio : He.DefD := ⟨("is_ratio", none), "is_ratio", "is_ratio", defArgs s_is_ratio, defBody s_is_ratio, defScope s_is_ratio, [], []⟩
def dd_begins_and_goes_on : He.DefD := ⟨("begins_and_goes_on", none), "begins_and_goes_on", "begins_and_goes_on", defArgs s_begins_and_goes_on, defBody s_begins_and_goes_on, defScope s_begins_and_goes_on, [], []⟩
def dd_is_case_word : He.DefD := ⟨("is_case_word", none), "is_case_word", "is_case_word", defArgs s_is_case_word, defBody s_is_case_word, defScope s_is_case_word, [], []⟩
def dd_is_day_number : He.DefD := ⟨("is_day_number", none), "is_day_number", "is_day_number", defArgs s_is_day_number, defBody s_is_day_number, defScope s_is_day_number, [], []⟩
def dd_is_value : He.DefD := ⟨("is_value", none), "is_value", "is_value", defArgs s_is_value, defBody s_is_value, defScope s_is_value, [], []⟩
def dd_padded : He.DefD := ⟨("padded", none), "padded", "padded", defArgs s_padded, defBody s_padded, defScope s_padded, [], []⟩
def dd_figures_of : He.DefD := ⟨("figures_of", none), "figures_of", "figures_of", defArgs s_figures_of, defBody s_figures_of, defScope s_figures_of, [], []⟩
def dd_plain_text : He.DefD := ⟨("plain_text", none), "plain_text", "plain_text", defArgs s_plain_text, defBody s_plain_text, defScope s_plain_text, [], []⟩
def dd_value_text : He.DefD := ⟨("value_text", none), "value_text", "value_text", defArgs s_value_text, defBody s_value_text, defScope s_value_text, [], []⟩
def dd_write_value : He.DefD := ⟨("write_value", none), "write_value", "write_value", defArgs s_write_value, defBody s_write_value, defScope s_write_value, [], []⟩
def dd_Signs___init__ : He.DefD := ⟨("ValueSigns", some "__init__"), "__init__", "Signs.__init__", defArgs s_Signs___init__, defBody s_Signs___init__, defScope s_Signs___init__, [], []⟩
def dd_Signs_here : He.DefD := ⟨("ValueSigns", some "here"), "here", "Signs.here", defArgs s_Signs_here, defBody s_Signs_here, defScope s_Signs_here, [], []⟩
def dd_Signs_is_one_of : He.DefD := ⟨("ValueSigns", some "is_one_of"), "is_one_of", "Signs.is_one_of", defArgs s_Signs_is_one_of, defBody s_Signs_is_one_of, defScope s_Signs_is_one_of, [], []⟩
def dd_Signs_took : He.DefD := ⟨("ValueSigns", some "took"), "took", "Signs.took", defArgs s_Signs_took, defBody s_Signs_took, defScope s_Signs_took, [], []⟩
def dd_Signs_figure_run : He.DefD := ⟨("ValueSigns", some "figure_run"), "figure_run", "Signs.figure_run", defArgs s_Signs_figure_run, defBody s_Signs_figure_run, defScope s_Signs_figure_run, [], []⟩
def dd_Signs_figures : He.DefD := ⟨("ValueSigns", some "figures"), "figures", "Signs.figures", defArgs s_Signs_figures, defBody s_Signs_figures, defScope s_Signs_figures, [], []⟩
def dd_ValueSigns_fit : He.DefD := ⟨("ValueSigns", some "fit"), "fit", "ValueSigns.fit", defArgs s_ValueSigns_fit, defBody s_ValueSigns_fit, defScope s_ValueSigns_fit, [], []⟩
def dd_ValueSigns_over : He.DefD := ⟨("ValueSigns", some "over"), "over", "ValueSigns.over", defArgs s_ValueSigns_over, defBody s_ValueSigns_over, defScope s_ValueSigns_over, [], []⟩
def dd_ValueSigns_number : He.DefD := ⟨("ValueSigns", some "number"), "number", "ValueSigns.number", defArgs s_ValueSigns_number, defBody s_ValueSigns_number, defScope s_ValueSigns_number, [], []⟩
def dd_ValueSigns_value : He.DefD := ⟨("ValueSigns", some "value"), "value", "ValueSigns.value", defArgs s_ValueSigns_value, defBody s_ValueSigns_value, defScope s_ValueSigns_value, [], []⟩
def dd_Signs_end : He.DefD := ⟨("ValueSigns", some "end"), "end", "Signs.end", defArgs s_Signs_end, defBody s_Signs_end, defScope s_Signs_end, [], []⟩
def dd_read_value : He.DefD := ⟨("read_value", none), "read_value", "read_value", defArgs s_read_value, defBody s_read_value, defScope s_read_value, [], []⟩
def dd__law_are_ratios_due : He.DefD := ⟨("_law_are_ratios_due", none), "_law_are_ratios_due", "_law_are_ratios_due", defArgs s__law_are_ratios_due, defBody s__law_are_ratios_due, defScope s__law_are_ratios_due, [], []⟩
def dd_rounded_by : He.DefD := ⟨("rounded_by", none), "rounded_by", "rounded_by", defArgs s_rounded_by, defBody s_rounded_by, defScope s_rounded_by, [], []⟩
def dd_rounded : He.DefD := ⟨("rounded", none), "rounded", "rounded", defArgs s_rounded, defBody s_rounded, defScope s_rounded, [], []⟩
def dd__law_is_rounded : He.DefD := ⟨("_law_is_rounded", none), "_law_is_rounded", "_law_is_rounded", defArgs s__law_is_rounded, defBody s__law_is_rounded, defScope s__law_is_rounded, [], []⟩
def dd_compared_by : He.DefD := ⟨("compared_by", none), "compared_by", "compared_by", defArgs s_compared_by, defBody s_compared_by, defScope s_compared_by, [], []⟩
def dd_compare_values : He.DefD := ⟨("compare_values", none), "compare_values", "compare_values", defArgs s_compare_values, defBody s_compare_values, defScope s_compare_values, [], []⟩
def dd__law_is_compared : He.DefD := ⟨("_law_is_compared", none), "_law_is_compared", "_law_is_compared", defArgs s__law_is_compared, defBody s__law_is_compared, defScope s__law_is_compared, [], []⟩
def dd__law_word : He.DefD := ⟨("_law_word", none), "_law_word", "_law_word", defArgs s__law_word, defBody s__law_word, defScope s__law_word, [], []⟩
def dd_is_name : He.DefD := ⟨("is_name", none), "is_name", "is_name", defArgs s_is_name, defBody s_is_name, defScope s_is_name, [], []⟩
def dd_is_path : He.DefD := ⟨("is_path", none), "is_path", "is_path", defArgs s_is_path, defBody s_is_path, defScope s_is_path, [], []⟩
def dd__law_are_words_due : He.DefD := ⟨("_law_are_words_due", none), "_law_are_words_due", "_law_are_words_due", defArgs s__law_are_words_due, defBody s__law_are_words_due, defScope s__law_are_words_due, [], []⟩
def dd__law_is_refused : He.DefD := ⟨("_law_is_refused", none), "_law_is_refused", "_law_is_refused", defArgs s__law_is_refused, defBody s__law_is_refused, defScope s__law_is_refused, [], []⟩
def dd_law : He.DefD := ⟨("law", none), "law", "law", defArgs s_law, defBody s_law, defScope s_law, [], []⟩
def fnP0 : List He.DefD := [dd__law_draws, dd__law_take, dd__law_pick, dd__law_number, dd__law_common, dd__law_least, dd_is_integer, dd_check, dd_greatest_part, dd_ratio_by, dd_ratio_of, dd__law_same]
def fnP1 : List He.DefD := [dd_is_ratio, dd_begins_and_goes_on, dd_is_case_word, dd_is_day_number, dd_is_value, dd_padded, dd_figures_of, dd_plain_text, dd_value_text, dd_write_value, dd_Signs___init__, dd_Signs_here]
def fnP2 : List He.DefD := [dd_Signs_is_one_of, dd_Signs_took, dd_Signs_figure_run, dd_Signs_figures, dd_ValueSigns_fit, dd_ValueSigns_over, dd_ValueSigns_number, dd_ValueSigns_value, dd_Signs_end, dd_read_value, dd__law_are_ratios_due, dd_rounded_by]
def fnP3 : List He.DefD := [dd_rounded, dd__law_is_rounded, dd_compared_by, dd_compare_values, dd__law_is_compared, dd__law_word, dd_is_name, dd_is_path, dd__law_are_words_due, dd__law_is_refused, dd_law]
def fnP : List He.DefD := fnP0 ++ fnP1 ++ fnP2 ++ fnP3
def faP0 : List He.Fa := [.glo "_law_draws", .glo "_law_take", .glo "_law_pick", .glo "_law_number", .glo "_law_common", .glo "_law_least", .glo "is_integer", .glo "check", .glo "greatest_part", .glo "ratio_by", .glo "ratio_of", .glo "_law_same"]
def faP1 : List He.Fa := [.glo "is_ratio", .glo "begins_and_goes_on", .glo "is_case_word", .glo "is_day_number", .glo "is_value", .glo "padded", .glo "figures_of", .glo "plain_text", .glo "value_text", .glo "write_value", .glo "read_value", .glo "_law_are_ratios_due"]
def faP2 : List He.Fa := [.glo "rounded_by", .glo "rounded", .glo "_law_is_rounded", .glo "compared_by", .glo "compare_values", .glo "_law_is_compared", .glo "_law_word", .glo "is_name", .glo "is_path", .glo "_law_are_words_due", .glo "_law_is_refused", .glo "law"]
def faP3 : List He.Fa := [.glo "NotRight", .glo "NoAnswer", .glo "Malformed", .glo "ValueSigns", .int "CENTS" (100), .glo "COMPARED", .str "FIGURES" "0123456789", .str "LARGE" "ABCDEFGHIJKLMNOPQRSTUVWXYZ", .int "LAST_DAY" (200000), .int "LONG" (1000000000000000000), .int "LONGEST_NAME" (16), .int "LONG_FIGURES" (18)]
def faP4 : List He.Fa := [.str "SMALL" "abcdefghijklmnopqrstuvwxyz", .glo "WAYS", .int "YEAR_FIGURES" (4), .free "abs", .free "all", .free "bool", .free "dict", .free "int", .free "isinstance", .free "len", .free "list", .free "range"]
def faP5 : List He.Fa := [.free "reversed", .free "str", .free "tuple", .free "super", .exc "NotRight", .exm "NotRight" "Malformed" false, .exm "NotRight" "NotRight" true, .exc "NoAnswer", .exm "NoAnswer" "Malformed" false, .exm "NoAnswer" "NotRight" false, .exm "Malformed" "Malformed" true, .exm "Malformed" "NotRight" false]
def faP6 : List He.Fa := [.cls "ValueSigns", .mkr "ValueSigns", .noat "ValueSigns" "text", .noat "ValueSigns" "at", .meth "ValueSigns" "here", .meth "ValueSigns" "is_one_of", .meth "ValueSigns" "took", .meth "ValueSigns" "figure_run", .meth "ValueSigns" "figures", .meth "ValueSigns" "fit", .meth "ValueSigns" "over", .meth "ValueSigns" "number"]
def faP7 : List He.Fa := [.meth "ValueSigns" "value", .meth "ValueSigns" "end"]
def faP : List He.Fa := faP0 ++ faP1 ++ faP2 ++ faP3 ++ faP4 ++ faP5 ++ faP6 ++ faP7
def exP (K : PySem.W.Frag) : Bool := ((malB "/claim/cut.py" K) && He.tupB K "COMPARED" [.str "ratio", .str "money", .str "day"]) && He.tupB K "WAYS" [.str "down", .str "up", .str "near"]
def mM : FnM := some (("__init__" : Str), ("Malformed.__init__" : Str), defArgs s_Malformed___init__, FuncBody.stmts (defBody s_Malformed___init__), defScope s_Malformed___init__, mainGlobals, (["__class__"] : List Str), Value.none, Value.none, builtinsNs)
def looseP0 : List PySem.Str := ["LONGEST_NAME", "SMALL", "LARGE", "FIGURES", "RuleError", "NotRight", "NoAnswer", "Malformed", "check", "is_integer", "begins_and_goes_on", "is_name"]
def looseP1 : List PySem.Str := ["is_case_word", "is_path", "greatest_part", "is_ratio", "are_ordered", "FIRST_YEAR", "LAST_DAY", "MOST_SPAN", "MONTHS", "LENGTHS", "FEBRUARY", "is_day_number"]
def looseP2 : List PySem.Str := ["is_span", "leaps", "length_by", "days_ahead", "number_by", "need_number", "day_of", "date_by", "Signs", "WAYS", "COMPARED", "CENTS"]
def looseP3 : List PySem.Str := ["YEAR_FIGURES", "LONG_FIGURES", "LONG", "is_value", "rounded_by", "rounded", "ratio_by", "ratio_of", "compared_by", "compare_values", "padded", "figures_of"]
def looseP4 : List PySem.Str := ["plain_text", "value_text", "write_value", "ValueSigns", "read_value", "_law_draws", "_law_same", "_law_take", "_law_pick", "_law_common", "_law_number", "_law_least"]
def looseP5 : List PySem.Str := ["_law_are_ratios_due", "_law_is_rounded", "_law_is_compared", "_law_word", "_law_are_words_due", "_law_is_refused"]
def looseP : List PySem.Str := looseP0 ++ looseP1 ++ looseP2 ++ looseP3 ++ looseP4 ++ looseP5
abbrev RW : PySem.W.OpenRow := PySem.W.OpenLaw.row PySem.Challenge.rw_asenacted_k14_whole_ratios_names_and_wor
abbrev hkP : PySem.W.Hook := hookP exP 6 faP fnP mM
def obP (s : PySem.W.SharedT) : AlP := obsPG exP 6 faP fnP (HandSHeadRun.getT s)
theorem obP_eq (s : PySem.W.SharedT) : obP s = hkP.obs s.abs := obsPG_eq (HandSHeadRun.getT_eq s)
theorem runP (w : World) : HandSHeadRun.RunEq RW (PySem.W.view RW.prog [71]) hkP obP 4000 looseP w := by
  intro os
  kernel_rfl
def clsL : List Cls1 := [⟨"NotRight", []⟩, ⟨"NoAnswer", []⟩, ⟨"Malformed", ["at"]⟩, ⟨"ValueSigns", ["text", "at"]⟩]
section
variable {P : Program} {w : World} {K : PySem.W.Frag} {h : Heap} {mg : Str → Option Value}
theorem mal_txt (X : K.In h) (G : h.Ns mainGlobals mg) (c : He.SaysD faP fnP K) (ex : exP K = true) (em : fnM K = mM) (hf : ((P.main.file : Str) == ("/claim/cut.py" : Str)) = true) (ht : (P.main.scope.names.lookup ("super" : Str)).isSome = false) : MalI P ⟨K, mg, clsL⟩ 2 := by
  have b : malB "/claim/cut.py" K = true := (He.ba (He.ba ex).1).1
  exact ⟨_, _, mal_of (p1 := ⟨14, 17, 14, 21⟩) (p2 := ⟨14, 23, 14, 25⟩) (m := "the text is none from a sign on") (j := 0) (q1 := ⟨15, 8, 15, 13⟩) (q2 := ⟨15, 8, 15, 15⟩) (c3 := 8) (d3 := 24) (q4 := ⟨15, 25, 15, 58⟩) (c5 := 8) (d5 := 59) (q6 := ⟨15, 8, 15, 59⟩) (q7 := ⟨16, 8, 16, 12⟩) (q8 := ⟨16, 8, 16, 15⟩) (q9 := ⟨16, 18, 16, 20⟩) (q10 := ⟨16, 8, 16, 20⟩) (em.trans rfl) b hf ht (He.glo_ok X G (c.fact 38 rfl)) (He.free_ok X G (c.fact 63 rfl)), rfl⟩
theorem tx_F_3_0 (X : K.In h) (G : h.Ns mainGlobals mg) (c : He.SaysD faP fnP K) (ex : exP K = true) : FldI ⟨K, mg, clsL⟩ 3 "text" 0 := ⟨_, _, rfl, He.glo_ok X G (c.fact 39 rfl), He.cls_ok (c.fact 72 rfl), He.noat_ok (c.fact 74 rfl), rfl, by decide +kernel, by decide⟩
theorem tx_F_3_1 (X : K.In h) (G : h.Ns mainGlobals mg) (c : He.SaysD faP fnP K) (ex : exP K = true) : FldI ⟨K, mg, clsL⟩ 3 "at" 1 := ⟨_, _, rfl, He.glo_ok X G (c.fact 39 rfl), He.cls_ok (c.fact 72 rfl), He.noat_ok (c.fact 75 rfl), rfl, by decide +kernel, by decide⟩
theorem tx_ct_Malformed (X : K.In h) (G : h.Ns mainGlobals mg) (c : He.SaysD faP fnP K) (ex : exP K = true) : CatI ⟨K, mg, clsL⟩ "Malformed" ct_Malformed := by
  refine ⟨_, He.glo_ok X G (c.fact 38 rfl), fun k b cl C2 hct hcl hC => ?_⟩
  match k, hct, hcl with
  | 0, hct, hcl =>
    cases hct
    cases hcl
    have g1 : mg "NotRight" = some (.ref (He.ga K "NotRight")) := He.glo_ok X G (c.fact 36 rfl)
    have g2 : mg "NotRight" = some (.ref C2) := hC
    rw [g1] at g2
    cases g2
    exact He.exm_ok (c.fact 65 rfl)
  | 1, hct, hcl =>
    cases hct
    cases hcl
    have g1 : mg "NoAnswer" = some (.ref (He.ga K "NoAnswer")) := He.glo_ok X G (c.fact 37 rfl)
    have g2 : mg "NoAnswer" = some (.ref C2) := hC
    rw [g1] at g2
    cases g2
    exact He.exm_ok (c.fact 68 rfl)
  | 2, hct, hcl =>
    cases hct
    cases hcl
    have g1 : mg "Malformed" = some (.ref (He.ga K "Malformed")) := He.glo_ok X G (c.fact 38 rfl)
    have g2 : mg "Malformed" = some (.ref C2) := hC
    rw [g1] at g2
    cases g2
    exact He.exm_ok (c.fact 70 rfl)
  | _ + 3, hct, hcl => exact absurd hct (by simp [ct_Malformed])
theorem tx_ct_NotRight (X : K.In h) (G : h.Ns mainGlobals mg) (c : He.SaysD faP fnP K) (ex : exP K = true) : CatI ⟨K, mg, clsL⟩ "NotRight" ct_NotRight := by
  refine ⟨_, He.glo_ok X G (c.fact 36 rfl), fun k b cl C2 hct hcl hC => ?_⟩
  match k, hct, hcl with
  | 0, hct, hcl =>
    cases hct
    cases hcl
    have g1 : mg "NotRight" = some (.ref (He.ga K "NotRight")) := He.glo_ok X G (c.fact 36 rfl)
    have g2 : mg "NotRight" = some (.ref C2) := hC
    rw [g1] at g2
    cases g2
    exact He.exm_ok (c.fact 66 rfl)
  | 1, hct, hcl =>
    cases hct
    cases hcl
    have g1 : mg "NoAnswer" = some (.ref (He.ga K "NoAnswer")) := He.glo_ok X G (c.fact 37 rfl)
    have g2 : mg "NoAnswer" = some (.ref C2) := hC
    rw [g1] at g2
    cases g2
    exact He.exm_ok (c.fact 69 rfl)
  | 2, hct, hcl =>
    cases hct
    cases hcl
    have g1 : mg "Malformed" = some (.ref (He.ga K "Malformed")) := He.glo_ok X G (c.fact 38 rfl)
    have g2 : mg "Malformed" = some (.ref C2) := hC
    rw [g1] at g2
    cases g2
    exact He.exm_ok (c.fact 71 rfl)
  | _ + 3, hct, hcl => exact absurd hct (by simp [ct_NotRight])
theorem tx_g_CENTS (X : K.In h) (G : h.Ns mainGlobals mg) (c : He.SaysD faP fnP K) (ex : exP K = true) : Glo ⟨K, mg, clsL⟩ "CENTS" (.int (100)) := glo_int (He.int_ok X G (c.fact 40 rfl))
theorem tx_g_COMPARED (X : K.In h) (G : h.Ns mainGlobals mg) (c : He.SaysD faP fnP K) (ex : exP K = true) : Glo ⟨K, mg, clsL⟩ "COMPARED" (.tup [(.str [114, 97, 116, 105, 111]), (.str [109, 111, 110, 101, 121]), (.str [100, 97, 121])]) := glo_tup (He.glo_ok X G (c.fact 41 rfl)) (He.ba (He.ba ex).1).2 (fun g => (.cons (rep_strOf (by decide +kernel)) (.cons (rep_strOf (by decide +kernel)) (.cons (rep_strOf (by decide +kernel)) .nil))))
theorem tx_g_FIGURES (X : K.In h) (G : h.Ns mainGlobals mg) (c : He.SaysD faP fnP K) (ex : exP K = true) : Glo ⟨K, mg, clsL⟩ "FIGURES" (.str [48, 49, 50, 51, 52, 53, 54, 55, 56, 57]) := glo_str (He.str_ok X G (c.fact 42 rfl)) (by decide +kernel)
theorem tx_g_LARGE (X : K.In h) (G : h.Ns mainGlobals mg) (c : He.SaysD faP fnP K) (ex : exP K = true) : Glo ⟨K, mg, clsL⟩ "LARGE" (.str [65, 66, 67, 68, 69, 70, 71, 72, 73, 74, 75, 76, 77, 78, 79, 80, 81, 82, 83, 84, 85, 86, 87, 88, 89, 90]) := glo_str (He.str_ok X G (c.fact 43 rfl)) (by decide +kernel)
theorem tx_g_LAST_DAY (X : K.In h) (G : h.Ns mainGlobals mg) (c : He.SaysD faP fnP K) (ex : exP K = true) : Glo ⟨K, mg, clsL⟩ "LAST_DAY" (.int (200000)) := glo_int (He.int_ok X G (c.fact 44 rfl))
theorem tx_g_LONG (X : K.In h) (G : h.Ns mainGlobals mg) (c : He.SaysD faP fnP K) (ex : exP K = true) : Glo ⟨K, mg, clsL⟩ "LONG" (.int (1000000000000000000)) := glo_int (He.int_ok X G (c.fact 45 rfl))
theorem tx_g_LONGEST_NAME (X : K.In h) (G : h.Ns mainGlobals mg) (c : He.SaysD faP fnP K) (ex : exP K = true) : Glo ⟨K, mg, clsL⟩ "LONGEST_NAME" (.int (16)) := glo_int (He.int_ok X G (c.fact 46 rfl))
theorem tx_g_LONG_FIGURES (X : K.In h) (G : h.Ns mainGlobals mg) (c : He.SaysD faP fnP K) (ex : exP K = true) : Glo ⟨K, mg, clsL⟩ "LONG_FIGURES" (.int (18)) := glo_int (He.int_ok X G (c.fact 47 rfl))
theorem tx_g_SMALL (X : K.In h) (G : h.Ns mainGlobals mg) (c : He.SaysD faP fnP K) (ex : exP K = true) : Glo ⟨K, mg, clsL⟩ "SMALL" (.str [97, 98, 99, 100, 101, 102, 103, 104, 105, 106, 107, 108, 109, 110, 111, 112, 113, 114, 115, 116, 117, 118, 119, 120, 121, 122]) := glo_str (He.str_ok X G (c.fact 48 rfl)) (by decide +kernel)
theorem tx_g_WAYS (X : K.In h) (G : h.Ns mainGlobals mg) (c : He.SaysD faP fnP K) (ex : exP K = true) : Glo ⟨K, mg, clsL⟩ "WAYS" (.tup [(.str [100, 111, 119, 110]), (.str [117, 112]), (.str [110, 101, 97, 114])]) := glo_tup (He.glo_ok X G (c.fact 49 rfl)) (He.ba ex).2 (fun g => (.cons (rep_strOf (by decide +kernel)) (.cons (rep_strOf (by decide +kernel)) (.cons (rep_strOf (by decide +kernel)) .nil))))
theorem tx_g_YEAR_FIGURES (X : K.In h) (G : h.Ns mainGlobals mg) (c : He.SaysD faP fnP K) (ex : exP K = true) : Glo ⟨K, mg, clsL⟩ "YEAR_FIGURES" (.int (4)) := glo_int (He.int_ok X G (c.fact 50 rfl))
theorem tx_m_ratio_of (X : K.In h) (G : h.Ns mainGlobals mg) (c : He.SaysD faP fnP K) (ex : exP K = true) : mg "ratio_of" = some (.ref (He.ga K "ratio_of")) := He.glo_ok X G (c.fact 10 rfl)
theorem tx_m_rounded (X : K.In h) (G : h.Ns mainGlobals mg) (c : He.SaysD faP fnP K) (ex : exP K = true) : mg "rounded" = some (.ref (He.ga K "rounded")) := He.glo_ok X G (c.fact 25 rfl)
theorem tx_n_abs (X : K.In h) (G : h.Ns mainGlobals mg) (c : He.SaysD faP fnP K) (ex : exP K = true) : mg "abs" = none := He.free_ok X G (c.fact 51 rfl)
theorem tx_n_all (X : K.In h) (G : h.Ns mainGlobals mg) (c : He.SaysD faP fnP K) (ex : exP K = true) : mg "all" = none := He.free_ok X G (c.fact 52 rfl)
theorem tx_n_bool (X : K.In h) (G : h.Ns mainGlobals mg) (c : He.SaysD faP fnP K) (ex : exP K = true) : mg "bool" = none := He.free_ok X G (c.fact 53 rfl)
theorem tx_n_dict (X : K.In h) (G : h.Ns mainGlobals mg) (c : He.SaysD faP fnP K) (ex : exP K = true) : mg "dict" = none := He.free_ok X G (c.fact 54 rfl)
theorem tx_n_int (X : K.In h) (G : h.Ns mainGlobals mg) (c : He.SaysD faP fnP K) (ex : exP K = true) : mg "int" = none := He.free_ok X G (c.fact 55 rfl)
theorem tx_n_isinstance (X : K.In h) (G : h.Ns mainGlobals mg) (c : He.SaysD faP fnP K) (ex : exP K = true) : mg "isinstance" = none := He.free_ok X G (c.fact 56 rfl)
theorem tx_n_len (X : K.In h) (G : h.Ns mainGlobals mg) (c : He.SaysD faP fnP K) (ex : exP K = true) : mg "len" = none := He.free_ok X G (c.fact 57 rfl)
theorem tx_n_list (X : K.In h) (G : h.Ns mainGlobals mg) (c : He.SaysD faP fnP K) (ex : exP K = true) : mg "list" = none := He.free_ok X G (c.fact 58 rfl)
theorem tx_n_range (X : K.In h) (G : h.Ns mainGlobals mg) (c : He.SaysD faP fnP K) (ex : exP K = true) : mg "range" = none := He.free_ok X G (c.fact 59 rfl)
theorem tx_n_reversed (X : K.In h) (G : h.Ns mainGlobals mg) (c : He.SaysD faP fnP K) (ex : exP K = true) : mg "reversed" = none := He.free_ok X G (c.fact 60 rfl)
theorem tx_n_str (X : K.In h) (G : h.Ns mainGlobals mg) (c : He.SaysD faP fnP K) (ex : exP K = true) : mg "str" = none := He.free_ok X G (c.fact 61 rfl)
theorem tx_n_tuple (X : K.In h) (G : h.Ns mainGlobals mg) (c : He.SaysD faP fnP K) (ex : exP K = true) : mg "tuple" = none := He.free_ok X G (c.fact 62 rfl)
theorem tx_x_NotRight (X : K.In h) (G : h.Ns mainGlobals mg) (c : He.SaysD faP fnP K) (ex : exP K = true) : XcI ⟨K, mg, clsL⟩ 0 "NotRight" := by
  obtain ⟨e1, e2, e3, e4⟩ := He.exc_ok (c.fact 64 rfl)
  exact ⟨_, _, rfl, rfl, He.glo_ok X G (c.fact 36 rfl), e1, e2, e3, e4⟩
theorem txt (X : K.In h) (G : h.Ns mainGlobals mg) (c : He.SaysD faP fnP K) (ex : exP K = true) (em : fnM K = mM) (hf : ((P.main.file : Str) == ("/claim/cut.py" : Str)) = true) (ht : (P.main.scope.names.lookup ("super" : Str)).isSome = false) : Txt P ⟨K, mg, clsL⟩ :=
  ⟨tx_F_3_0 X G c ex, tx_F_3_1 X G c ex, tx_ct_Malformed X G c ex, tx_ct_NotRight X G c ex, tx_g_CENTS X G c ex, tx_g_COMPARED X G c ex, tx_g_FIGURES X G c ex, tx_g_LARGE X G c ex, tx_g_LAST_DAY X G c ex, tx_g_LONG X G c ex, tx_g_LONGEST_NAME X G c ex, tx_g_LONG_FIGURES X G c ex, tx_g_SMALL X G c ex, tx_g_WAYS X G c ex, tx_g_YEAR_FIGURES X G c ex, tx_m_ratio_of X G c ex, tx_m_rounded X G c ex, tx_n_abs X G c ex, tx_n_all X G c ex, tx_n_bool X G c ex, tx_n_dict X G c ex, tx_n_int X G c ex, tx_n_isinstance X G c ex, tx_n_len X G c ex, tx_n_list X G c ex, tx_n_range X G c ex, tx_n_reversed X G c ex, tx_n_str X G c ex, tx_n_tuple X G c ex, mal_txt X G c ex em hf ht, tx_x_NotRight X G c ex⟩
end
theorem facts {P : Program} {w : World} {K : PySem.W.Frag} {h : Heap} {mg : Str → Option Value} {f : Addr} (X : K.In h) (G : h.Ns mainGlobals mg) (hfa : mg ("law" : Str) = some (.ref f)) (c : He.SaysD faP fnP K) (ex : exP K = true) (em : fnM K = mM) (hf : ((P.main.file : Str) == ("/claim/cut.py" : Str)) = true) (ht : (P.main.scope.names.lookup ("super" : Str)).isSome = false) :
    ∃ fd : FuncData, (∀ (s : Shared) (v : Value), BindsTo s fd ⟨[v], []⟩ [("script", v)]) ∧ ∀ base : Heap, K.In base → base.Ns mainGlobals mg → FnOk P w K mg base (L2.CX P w) 20 f fd ["script"] (spI ⟨K, mg, clsL⟩ f_law) := by
  have T : Txt P ⟨K, mg, clsL⟩ := txt X G c ex em hf ht
  have e := hfa.symm.trans (He.glo_ok X G (c.fact 35 rfl))
  cases e
  obtain ⟨fd, F⟩ := c.def_ 46 (d := dd_law) rfl
  have b := FunD.bindsA (ps := ["script"]) F fun _ _ _ _ _ _ us hl => match us, hl with | [_], _ => rfl
  refine ⟨fd, fun s v => b s [v] rfl, fun base _ _ => ?_⟩
  obtain ⟨fd_0, F_0⟩ := c.def_ 0 (d := dd__law_draws) rfl
  have D__law_draws : DG P w base ⟨K, mg, clsL⟩ 1 "_law_draws" ["script"] f__law_draws := ⟨_, R__law_draws T F_0 , He.glo_ok X G (c.fact 0 rfl)⟩
  obtain ⟨fd_1, F_1⟩ := c.def_ 1 (d := dd__law_take) rfl
  have D__law_take : DG P w base ⟨K, mg, clsL⟩ 1 "_law_take" ["draws", "bound"] f__law_take := ⟨_, R__law_take T F_1 , He.glo_ok X G (c.fact 1 rfl)⟩
  obtain ⟨fd_2, F_2⟩ := c.def_ 2 (d := dd__law_pick) rfl
  have D__law_pick : DG P w base ⟨K, mg, clsL⟩ 2 "_law_pick" ["draws", "some"] f__law_pick := ⟨_, R__law_pick T F_2 (D__law_take.up (by decide)), He.glo_ok X G (c.fact 2 rfl)⟩
  obtain ⟨fd_3, F_3⟩ := c.def_ 3 (d := dd__law_number) rfl
  have D__law_number : DG P w base ⟨K, mg, clsL⟩ 3 "_law_number" ["draws"] f__law_number := ⟨_, R__law_number T F_3 (D__law_take.up (by decide)) (D__law_pick.up (by decide)), He.glo_ok X G (c.fact 3 rfl)⟩
  obtain ⟨fd_4, F_4⟩ := c.def_ 4 (d := dd__law_common) rfl
  have D__law_common : DG P w base ⟨K, mg, clsL⟩ 1 "_law_common" ["n", "d"] f__law_common := ⟨_, R__law_common T F_4 , He.glo_ok X G (c.fact 4 rfl)⟩
  obtain ⟨fd_5, F_5⟩ := c.def_ 5 (d := dd__law_least) rfl
  have D__law_least : DG P w base ⟨K, mg, clsL⟩ 2 "_law_least" ["n", "d"] f__law_least := ⟨_, R__law_least T F_5 (D__law_common.up (by decide)), He.glo_ok X G (c.fact 5 rfl)⟩
  obtain ⟨fd_6, F_6⟩ := c.def_ 6 (d := dd_is_integer) rfl
  have D_is_integer : DG P w base ⟨K, mg, clsL⟩ 1 "is_integer" ["value"] f_is_integer := ⟨_, R_is_integer T F_6 , He.glo_ok X G (c.fact 6 rfl)⟩
  obtain ⟨fd_7, F_7⟩ := c.def_ 7 (d := dd_check) rfl
  have D_check : DG P w base ⟨K, mg, clsL⟩ 1 "check" ["is_right"] f_check := ⟨_, R_check T F_7 , He.glo_ok X G (c.fact 7 rfl)⟩
  obtain ⟨fd_8, F_8⟩ := c.def_ 8 (d := dd_greatest_part) rfl
  have D_greatest_part : DG P w base ⟨K, mg, clsL⟩ 1 "greatest_part" ["one", "other"] f_greatest_part := ⟨_, R_greatest_part T F_8 , He.glo_ok X G (c.fact 8 rfl)⟩
  obtain ⟨fd_9, F_9⟩ := c.def_ 9 (d := dd_ratio_by) rfl
  have D_ratio_by : DG P w base ⟨K, mg, clsL⟩ 2 "ratio_by" ["n", "d"] f_ratio_by := ⟨_, R_ratio_by T F_9 (D_greatest_part.up (by decide)), He.glo_ok X G (c.fact 9 rfl)⟩
  obtain ⟨fd_10, F_10⟩ := c.def_ 10 (d := dd_ratio_of) rfl
  have D_ratio_of : DG P w base ⟨K, mg, clsL⟩ 3 "ratio_of" ["n", "d"] f_ratio_of := ⟨_, R_ratio_of T F_10 (D_is_integer.up (by decide)) (D_check.up (by decide)) (D_ratio_by.up (by decide)), He.glo_ok X G (c.fact 10 rfl)⟩
  obtain ⟨fd_11, F_11⟩ := c.def_ 11 (d := dd__law_same) rfl
  have D__law_same : DG P w base ⟨K, mg, clsL⟩ 5 "_law_same" ["told", "due"] (f__law_same 5) := ⟨_, R__law_same T F_11 (He.glo_ok X G (c.fact 11 rfl))  5, He.glo_ok X G (c.fact 11 rfl)⟩
  obtain ⟨fd_12, F_12⟩ := c.def_ 12 (d := dd_is_ratio) rfl
  have D_is_ratio : DG P w base ⟨K, mg, clsL⟩ 2 "is_ratio" ["value"] f_is_ratio := ⟨_, R_is_ratio T F_12 (D_is_integer.up (by decide)) (D_greatest_part.up (by decide)), He.glo_ok X G (c.fact 12 rfl)⟩
  obtain ⟨fd_13, F_13⟩ := c.def_ 13 (d := dd_begins_and_goes_on) rfl
  have D_begins_and_goes_on : DG P w base ⟨K, mg, clsL⟩ 1 "begins_and_goes_on" ["value", "first", "others"] f_begins_and_goes_on := ⟨_, R_begins_and_goes_on T F_13 , He.glo_ok X G (c.fact 13 rfl)⟩
  obtain ⟨fd_14, F_14⟩ := c.def_ 14 (d := dd_is_case_word) rfl
  have D_is_case_word : DG P w base ⟨K, mg, clsL⟩ 2 "is_case_word" ["value"] f_is_case_word := ⟨_, R_is_case_word T F_14 (D_begins_and_goes_on.up (by decide)), He.glo_ok X G (c.fact 14 rfl)⟩
  obtain ⟨fd_15, F_15⟩ := c.def_ 15 (d := dd_is_day_number) rfl
  have D_is_day_number : DG P w base ⟨K, mg, clsL⟩ 2 "is_day_number" ["value"] f_is_day_number := ⟨_, R_is_day_number T F_15 (D_is_integer.up (by decide)), He.glo_ok X G (c.fact 15 rfl)⟩
  obtain ⟨fd_16, F_16⟩ := c.def_ 16 (d := dd_is_value) rfl
  have D_is_value : DG P w base ⟨K, mg, clsL⟩ 3 "is_value" ["value"] f_is_value := ⟨_, R_is_value T F_16 (D_is_case_word.up (by decide)) (D_is_ratio.up (by decide)) (D_is_integer.up (by decide)) (D_is_day_number.up (by decide)), He.glo_ok X G (c.fact 16 rfl)⟩
  obtain ⟨fd_17, F_17⟩ := c.def_ 17 (d := dd_padded) rfl
  have D_padded : DG P w base ⟨K, mg, clsL⟩ 1 "padded" ["number", "most"] f_padded := ⟨_, R_padded T F_17 , He.glo_ok X G (c.fact 17 rfl)⟩
  obtain ⟨fd_18, F_18⟩ := c.def_ 18 (d := dd_figures_of) rfl
  have D_figures_of : DG P w base ⟨K, mg, clsL⟩ 2 "figures_of" ["number"] f_figures_of := ⟨_, R_figures_of T F_18 (D_padded.up (by decide)), He.glo_ok X G (c.fact 18 rfl)⟩
  obtain ⟨fd_19, F_19⟩ := c.def_ 19 (d := dd_plain_text) rfl
  have D_plain_text : DG P w base ⟨K, mg, clsL⟩ 3 "plain_text" ["value"] f_plain_text := ⟨_, R_plain_text T F_19 (D_figures_of.up (by decide)) (D_padded.up (by decide)), He.glo_ok X G (c.fact 19 rfl)⟩
  obtain ⟨fd_20, F_20⟩ := c.def_ 20 (d := dd_value_text) rfl
  have D_value_text : DG P w base ⟨K, mg, clsL⟩ 4 "value_text" ["value"] f_value_text := ⟨_, R_value_text T F_20 (D_figures_of.up (by decide)) (D_plain_text.up (by decide)), He.glo_ok X G (c.fact 20 rfl)⟩
  obtain ⟨fd_21, F_21⟩ := c.def_ 21 (d := dd_write_value) rfl
  have D_write_value : DG P w base ⟨K, mg, clsL⟩ 5 "write_value" ["value"] f_write_value := ⟨_, R_write_value T F_21 (D_is_value.up (by decide)) (D_check.up (by decide)) (D_value_text.up (by decide)), He.glo_ok X G (c.fact 21 rfl)⟩
  obtain ⟨fd_22, F_22⟩ := c.def_ 22 (d := dd_Signs___init__) rfl
  have N_3 : DN P w base ⟨K, mg, clsL⟩ 1 3 "ValueSigns" ["self", "text"] f_Signs___init__ := ⟨_, R_Signs___init__ T F_22 , ⟨_, _, rfl, rfl, He.glo_ok X G (c.fact 39 rfl), He.mkr_ok (c.fact 73 rfl)⟩⟩
  obtain ⟨fd_23, F_23⟩ := c.def_ 23 (d := dd_Signs_here) rfl
  have M_3_here : DM P w base ⟨K, mg, clsL⟩ 1 3 "here" ["self"] f_Signs_here := ⟨_, R_Signs_here T F_23 , ⟨_, _, rfl, He.glo_ok X G (c.fact 39 rfl), He.cls_ok (c.fact 72 rfl), He.meth_ok (c.fact 76 rfl), by decide +kernel⟩⟩
  obtain ⟨fd_24, F_24⟩ := c.def_ 24 (d := dd_Signs_is_one_of) rfl
  have M_3_is_one_of : DM P w base ⟨K, mg, clsL⟩ 2 3 "is_one_of" ["self", "signs"] f_Signs_is_one_of := ⟨_, R_Signs_is_one_of T F_24 (M_3_here.up (by decide)), ⟨_, _, rfl, He.glo_ok X G (c.fact 39 rfl), He.cls_ok (c.fact 72 rfl), He.meth_ok (c.fact 77 rfl), by decide +kernel⟩⟩
  obtain ⟨fd_25, F_25⟩ := c.def_ 25 (d := dd_Signs_took) rfl
  have M_3_took : DM P w base ⟨K, mg, clsL⟩ 1 3 "took" ["self", "word"] f_Signs_took := ⟨_, R_Signs_took T F_25 , ⟨_, _, rfl, He.glo_ok X G (c.fact 39 rfl), He.cls_ok (c.fact 72 rfl), He.meth_ok (c.fact 78 rfl), by decide +kernel⟩⟩
  obtain ⟨fd_26, F_26⟩ := c.def_ 26 (d := dd_Signs_figure_run) rfl
  have M_3_figure_run : DM P w base ⟨K, mg, clsL⟩ 3 3 "figure_run" ["self"] f_Signs_figure_run := ⟨_, R_Signs_figure_run T F_26 (M_3_is_one_of.up (by decide)) (M_3_here.up (by decide)), ⟨_, _, rfl, He.glo_ok X G (c.fact 39 rfl), He.cls_ok (c.fact 72 rfl), He.meth_ok (c.fact 79 rfl), by decide +kernel⟩⟩
  obtain ⟨fd_27, F_27⟩ := c.def_ 27 (d := dd_Signs_figures) rfl
  have M_3_figures : DM P w base ⟨K, mg, clsL⟩ 4 3 "figures" ["self"] f_Signs_figures := ⟨_, R_Signs_figures T F_27 (M_3_took.up (by decide)) (M_3_is_one_of.up (by decide)) (M_3_figure_run.up (by decide)), ⟨_, _, rfl, He.glo_ok X G (c.fact 39 rfl), He.cls_ok (c.fact 72 rfl), He.meth_ok (c.fact 80 rfl), by decide +kernel⟩⟩
  obtain ⟨fd_28, F_28⟩ := c.def_ 28 (d := dd_ValueSigns_fit) rfl
  have M_3_fit : DM P w base ⟨K, mg, clsL⟩ 1 3 "fit" ["self", "is_fine", "begin", "told"] f_ValueSigns_fit := ⟨_, R_ValueSigns_fit T F_28 , ⟨_, _, rfl, He.glo_ok X G (c.fact 39 rfl), He.cls_ok (c.fact 72 rfl), He.meth_ok (c.fact 81 rfl), by decide +kernel⟩⟩
  obtain ⟨fd_29, F_29⟩ := c.def_ 29 (d := dd_ValueSigns_over) rfl
  have M_3_over : DM P w base ⟨K, mg, clsL⟩ 5 3 "over" ["self", "begin", "above"] f_ValueSigns_over := ⟨_, R_ValueSigns_over T F_29 (M_3_here.up (by decide)) (M_3_figures.up (by decide)) (D_greatest_part.up (by decide)) (M_3_fit.up (by decide)), ⟨_, _, rfl, He.glo_ok X G (c.fact 39 rfl), He.cls_ok (c.fact 72 rfl), He.meth_ok (c.fact 82 rfl), by decide +kernel⟩⟩
  obtain ⟨fd_30, F_30⟩ := c.def_ 30 (d := dd_ValueSigns_number) rfl
  have M_3_number : DM P w base ⟨K, mg, clsL⟩ 6 3 "number" ["self"] f_ValueSigns_number := ⟨_, R_ValueSigns_number T F_30 (M_3_took.up (by decide)) (M_3_here.up (by decide)) (M_3_figures.up (by decide)) (M_3_over.up (by decide)), ⟨_, _, rfl, He.glo_ok X G (c.fact 39 rfl), He.cls_ok (c.fact 72 rfl), He.meth_ok (c.fact 83 rfl), by decide +kernel⟩⟩
  obtain ⟨fd_31, F_31⟩ := c.def_ 31 (d := dd_ValueSigns_value) rfl
  have M_3_value : DM P w base ⟨K, mg, clsL⟩ 7 3 "value" ["self"] f_ValueSigns_value := ⟨_, R_ValueSigns_value T F_31 (M_3_here.up (by decide)) (M_3_is_one_of.up (by decide)) (M_3_number.up (by decide)), ⟨_, _, rfl, He.glo_ok X G (c.fact 39 rfl), He.cls_ok (c.fact 72 rfl), He.meth_ok (c.fact 84 rfl), by decide +kernel⟩⟩
  obtain ⟨fd_32, F_32⟩ := c.def_ 32 (d := dd_Signs_end) rfl
  have M_3_end : DM P w base ⟨K, mg, clsL⟩ 2 3 "end" ["self", "told"] f_Signs_end := ⟨_, R_Signs_end T F_32 (M_3_here.up (by decide)), ⟨_, _, rfl, He.glo_ok X G (c.fact 39 rfl), He.cls_ok (c.fact 72 rfl), He.meth_ok (c.fact 85 rfl), by decide +kernel⟩⟩
  obtain ⟨fd_33, F_33⟩ := c.def_ 33 (d := dd_read_value) rfl
  have D_read_value : DG P w base ⟨K, mg, clsL⟩ 8 "read_value" ["text"] f_read_value := ⟨_, R_read_value T F_33 (D_check.up (by decide)) (N_3.up (by decide)) (M_3_value.up (by decide)) (M_3_end.up (by decide)), He.glo_ok X G (c.fact 22 rfl)⟩
  obtain ⟨fd_34, F_34⟩ := c.def_ 34 (d := dd__law_are_ratios_due) rfl
  have D__law_are_ratios_due : DG P w base ⟨K, mg, clsL⟩ 9 "_law_are_ratios_due" ["draws"] f__law_are_ratios_due := ⟨_, R__law_are_ratios_due T F_34 (D__law_number.up (by decide)) (D__law_pick.up (by decide)) (D__law_least.up (by decide)) (D_ratio_of.up (by decide)) (D__law_same.up (by decide)) (D_is_ratio.up (by decide)) (D_is_value.up (by decide)) (D_write_value.up (by decide)) (D_read_value.up (by decide)) (D__law_common.up (by decide)), He.glo_ok X G (c.fact 23 rfl)⟩
  obtain ⟨fd_35, F_35⟩ := c.def_ 35 (d := dd_rounded_by) rfl
  have D_rounded_by : DG P w base ⟨K, mg, clsL⟩ 1 "rounded_by" ["number", "way"] f_rounded_by := ⟨_, R_rounded_by T F_35 , He.glo_ok X G (c.fact 24 rfl)⟩
  obtain ⟨fd_36, F_36⟩ := c.def_ 36 (d := dd_rounded) rfl
  have D_rounded : DG P w base ⟨K, mg, clsL⟩ 3 "rounded" ["number", "way"] f_rounded := ⟨_, R_rounded T F_36 (D_is_ratio.up (by decide)) (D_check.up (by decide)) (D_rounded_by.up (by decide)), He.glo_ok X G (c.fact 25 rfl)⟩
  obtain ⟨fd_37, F_37⟩ := c.def_ 37 (d := dd__law_is_rounded) rfl
  have D__law_is_rounded : DG P w base ⟨K, mg, clsL⟩ 7 "_law_is_rounded" ["draws"] f__law_is_rounded := ⟨_, R__law_is_rounded T F_37 (D__law_number.up (by decide)) (D__law_pick.up (by decide)) (D__law_least.up (by decide)) (D_rounded.up (by decide)) (D__law_same.up (by decide)), He.glo_ok X G (c.fact 26 rfl)⟩
  obtain ⟨fd_38, F_38⟩ := c.def_ 38 (d := dd_compared_by) rfl
  have D_compared_by : DG P w base ⟨K, mg, clsL⟩ 1 "compared_by" ["one", "other"] f_compared_by := ⟨_, R_compared_by T F_38 , He.glo_ok X G (c.fact 27 rfl)⟩
  obtain ⟨fd_39, F_39⟩ := c.def_ 39 (d := dd_compare_values) rfl
  have D_compare_values : DG P w base ⟨K, mg, clsL⟩ 4 "compare_values" ["one", "other"] f_compare_values := ⟨_, R_compare_values T F_39 (D_is_value.up (by decide)) (D_check.up (by decide)) (D_is_integer.up (by decide)) (D_compared_by.up (by decide)), He.glo_ok X G (c.fact 28 rfl)⟩
  obtain ⟨fd_40, F_40⟩ := c.def_ 40 (d := dd__law_is_compared) rfl
  have D__law_is_compared : DG P w base ⟨K, mg, clsL⟩ 7 "_law_is_compared" ["draws"] f__law_is_compared := ⟨_, R__law_is_compared T F_40 (D__law_number.up (by decide)) (D__law_pick.up (by decide)) (D__law_least.up (by decide)) (D_compare_values.up (by decide)) (D__law_same.up (by decide)) (D__law_take.up (by decide)), He.glo_ok X G (c.fact 29 rfl)⟩
  obtain ⟨fd_41, F_41⟩ := c.def_ 41 (d := dd__law_word) rfl
  have D__law_word : DG P w base ⟨K, mg, clsL⟩ 3 "_law_word" ["draws"] f__law_word := ⟨_, R__law_word T F_41 (D__law_pick.up (by decide)) (D__law_take.up (by decide)), He.glo_ok X G (c.fact 30 rfl)⟩
  obtain ⟨fd_42, F_42⟩ := c.def_ 42 (d := dd_is_name) rfl
  have D_is_name : DG P w base ⟨K, mg, clsL⟩ 2 "is_name" ["value"] f_is_name := ⟨_, R_is_name T F_42 (D_begins_and_goes_on.up (by decide)), He.glo_ok X G (c.fact 31 rfl)⟩
  obtain ⟨fd_43, F_43⟩ := c.def_ 43 (d := dd_is_path) rfl
  have D_is_path : DG P w base ⟨K, mg, clsL⟩ 3 "is_path" ["value"] f_is_path := ⟨_, R_is_path T F_43 (D_is_name.up (by decide)), He.glo_ok X G (c.fact 32 rfl)⟩
  obtain ⟨fd_44, F_44⟩ := c.def_ 44 (d := dd__law_are_words_due) rfl
  have D__law_are_words_due : DG P w base ⟨K, mg, clsL⟩ 7 "_law_are_words_due" ["draws"] f__law_are_words_due := ⟨_, R__law_are_words_due T F_44 (D__law_word.up (by decide)) (D_is_name.up (by decide)) (D_is_case_word.up (by decide)) (D__law_same.up (by decide)) (D_is_path.up (by decide)), He.glo_ok X G (c.fact 33 rfl)⟩
  obtain ⟨fd_45, F_45⟩ := c.def_ 45 (d := dd__law_is_refused) rfl
  have D__law_is_refused : DG P w base ⟨K, mg, clsL⟩ 5 "_law_is_refused" ["which", "one", "two"] f__law_is_refused := ⟨_, R__law_is_refused T F_45 (D_compare_values.up (by decide)) (D_ratio_of.up (by decide)) (D_rounded.up (by decide)), He.glo_ok X G (c.fact 34 rfl)⟩
  exact R_law T F (D__law_draws.up (by decide)) (D__law_are_ratios_due.up (by decide)) (D__law_is_rounded.up (by decide)) (D__law_is_compared.up (by decide)) (D__law_are_words_due.up (by decide)) (D__law_is_refused.up (by decide)) (D_compare_values.up (by decide)) (D_ratio_of.up (by decide))
end K14
end
section
set_option maxRecDepth 100000
set_option maxHeartbeats 0
open PySem PySem.W PySem.Calls PyProof.Rows
theorem PySem.Challenge.cw_asenacted_k14_whole_ratios_names_and_wor_holds : PySem.Challenge.rw_asenacted_k14_whole_ratios_names_and_wor.Holds := by
  w_on; o_law
  refine HandSHeadRun.head_any (r := OpenLaw.row PySem.Challenge.rw_asenacted_k14_whole_ratios_names_and_wor) (q := view (OpenLaw.row PySem.Challenge.rw_asenacted_k14_whole_ratios_names_and_wor).prog [71]) (H := K14.hkP) (ob := K14.obP) (M := 4000) (loose := K14.looseP) (d := HandSHeadRun.topDef (OpenLaw.row PySem.Challenge.rw_asenacted_k14_whole_ratios_names_and_wor).prog 71) (kwd := []) K14.obP_eq
    (by kernel_rfl) (fun s => by kernel_rfl) K14.runP (by kernel_rfl) (by kernel_rfl) (by kernel_rfl) (by rfl) (by first | assumption | decide +kernel) (by decide +kernel) ⟨rfl, rfl, rfl, rfl, rfl, by decide +kernel⟩ ?hw ?hc
  case hw => w_witness2
  case hc =>
    refine Pi.walk_ofX (l := PySem.Challenge.rw_asenacted_k14_whole_ratios_names_and_wor) (n := 63) (k := 20) (x := "script") rfl (by decide) (by kernel_rfl) ⟨rfl, by decide, by decide⟩ ?F
    intro w mg fa h Y G hmg0
    obtain ⟨K, KX, c⟩ := Y
    have hmg : mg ("law" : PySem.Str) = some (.ref fa) := by
      have e : (HandSHeadRun.topDef (OpenLaw.row PySem.Challenge.rw_asenacted_k14_whole_ratios_names_and_wor).prog 71).name = ("law" : PySem.Str) := by kernel_rfl
      rw [← e]
      exact hmg0
    obtain ⟨c1, c2, c3⟩ := Pi.SaysP.saysD c
    obtain ⟨fd, hb, hF⟩ := K14.facts (P := (PySem.Challenge.rw_asenacted_k14_whole_ratios_names_and_wor).prog) (w := w) KX G hmg c1 c2 c3 (by decide +kernel) (by kernel_rfl)
    exact ⟨K, fd, Pi.spI ⟨K, mg, K14.clsL⟩ K14.f_law, KX, hb, fun H a ns hl ho hS => K14.law_sp H a ns hl ho hS, hF⟩
end
