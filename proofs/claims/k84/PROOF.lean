import PyProof.Rows.All
import Wide.All
import OpenK.AllK
import Wide.FinOn
import HandS.ForMost
import HandS.Wide
import HandS.Flow
import HandS.Style
import HandS.Defaults
import HandS.Conv
import HandS.Sort
import HandS.Walk
import HandS.IsInst
import HandS.SortInts
import PyProof.ReprRoads
import PyProof.ReprBulk
import HandS.More
import HandS.DictTup
import HandS.HeadEnd
import HandS.SortRule
import HandS.DictComp
import HandS.SetFor
import HandS.Strs
import HandS.Head0
import HandS.Head1
import HandS.Head2
import HandS.HeadHook1
import HandS.HeadHook2
import PySem.Challenge.RW_rankrows_k84_whole_full_and_double_prime
set_option Elab.async false
set_option linter.all false
set_option maxRecDepth 100000
set_option maxHeartbeats 4000001
/-! PD: values as trees of data, names as cells: a layer over the hand layer in which a def is read without its heap. -/
namespace PD
open PySem PySem.Spec L2

/-! ### data -/
inductive D where
  | non | bl (b : Bool) | int (i : Int) | str (x : Str)
  | lst (xs : List D) | tup (xs : List D) | dic (kvs : List (Key × D)) | obj (v : V) | scr (ns : List Int)

mutual
/-- in the heap H the value v is to be read as d -/
inductive Dd (K : PySem.W.Frag) (H : Hp) : V → D → Prop
  | non : Dd K H .non .non
  | bl (b : Bool) : Dd K H (.bl b) (.bl b)
  | int (i : Int) : Dd K H (.int i) (.int i)
  | str (x : Str) : Dd K H (.str x) (.str x)
  | lst {a : Addr} {xs : List V} {ds : List D} : H a = some (.lst xs) → DdAll K H xs ds → Dd K H (.ref a) (.lst ds)
  | tup {a : Addr} {xs : List V} {ds : List D} : SqT K H a xs → DdAll K H xs ds → Dd K H (.ref a) (.tup ds)
  | dic {a : Addr} {kvs : List (Key × V)} {ds : List (Key × D)} : H a = some (.dK kvs) → DdKv K H kvs ds → Dd K H (.ref a) (.dic ds)
  | obj (v : V) : Dd K H v (.obj v)
  | scr {a : Addr} {ns : List Int} : SqL K H a (ns.map V.int) → Dd K H (.ref a) (.scr ns)
inductive DdAll (K : PySem.W.Frag) (H : Hp) : List V → List D → Prop
  | nil : DdAll K H [] []
  | cons {v : V} {vs : List V} {d : D} {ds : List D} : Dd K H v d → DdAll K H vs ds → DdAll K H (v :: vs) (d :: ds)
inductive DdKv (K : PySem.W.Frag) (H : Hp) : List (Key × V) → List (Key × D) → Prop
  | nil : DdKv K H [] []
  | cons {k : Key} {v : V} {vs : List (Key × V)} {d : D} {ds : List (Key × D)} : Dd K H v d → DdKv K H vs ds → DdKv K H ((k, v) :: vs) ((k, d) :: ds)
end

theorem sqT_mono {K : PySem.W.Frag} {H H' : Hp} {a : Addr} {xs : List V} (s : Same H H') (h : SqT K H a xs) : SqT K H' a xs := by
  rcases h with h | h
  · rcases h with h | ⟨o, h⟩
    · exact .inl (.inl (s _ _ h))
    · exact .inl (.inr ⟨o, s _ _ h⟩)
  · exact .inr h
section
variable {K : PySem.W.Frag} {H H' : Hp} (s : Same H H')
include s
mutual
theorem Dd.mono : ∀ {v : V} {d : D}, Dd K H v d → Dd K H' v d
  | _, _, .non => .non
  | _, _, .bl b => .bl b
  | _, _, .int i => .int i
  | _, _, .str x => .str x
  | _, _, .lst h a => .lst (s _ _ h) (DdAll.mono a)
  | _, _, .tup h a => .tup (sqT_mono s h) (DdAll.mono a)
  | _, _, .dic h a => .dic (s _ _ h) (DdKv.mono a)
  | _, _, .obj v => .obj v
  | _, _, .scr h => .scr (s.seq h)
theorem DdAll.mono : ∀ {v : List V} {d : List D}, DdAll K H v d → DdAll K H' v d
  | _, _, .nil => .nil
  | _, _, .cons h t => .cons (Dd.mono h) (DdAll.mono t)
theorem DdKv.mono : ∀ {v : List (Key × V)} {d : List (Key × D)}, DdKv K H v d → DdKv K H' v d
  | _, _, .nil => .nil
  | _, _, .cons h t => .cons (Dd.mono h) (DdKv.mono t)
end
end
section
variable {K : PySem.W.Frag} {H : Hp}
theorem DdAll.length : ∀ {v : List V} {d : List D}, DdAll K H v d → v.length = d.length
  | _, _, .nil => rfl
  | _, _, .cons _ t => congrArg Nat.succ (DdAll.length t)
theorem DdAll.get : ∀ {vs : List V} {ds : List D} (i : Nat) {d : D}, DdAll K H vs ds → ds[i]? = some d → ∃ v, vs[i]? = some v ∧ Dd K H v d
  | _, _, i, _, .nil, e => by simp at e
  | _, _, 0, d, .cons h t, e => by
    have e : some _ = some d := e
    cases e
    exact ⟨_, rfl, h⟩
  | _, _, i + 1, d, .cons h t, e => DdAll.get i t (by simpa using e)
theorem DdAll.getV : ∀ {vs : List V} {ds : List D} (i : Nat) {v : V}, DdAll K H vs ds → vs[i]? = some v → ∃ d, ds[i]? = some d ∧ Dd K H v d
  | _, _, i, _, .nil, e => by simp at e
  | _, _, 0, d, .cons h t, e => by
    have e : some _ = some d := e
    cases e
    exact ⟨_, rfl, h⟩
  | _, _, i + 1, d, .cons h t, e => DdAll.getV i t (by simpa using e)
theorem DdAll.append : ∀ {vs ws : List V} {ds es : List D}, DdAll K H vs ds → DdAll K H ws es → DdAll K H (vs ++ ws) (ds ++ es)
  | _, _, _, _, .nil, b => b
  | _, _, _, _, .cons h t, b => .cons h (DdAll.append t b)
theorem DdAll.take : ∀ (n : Nat) {vs : List V} {ds : List D}, DdAll K H vs ds → DdAll K H (vs.take n) (ds.take n)
  | 0, _, _, _ => .nil
  | _ + 1, _, _, .nil => .nil
  | n + 1, _, _, .cons h t => .cons h (DdAll.take n t)
theorem DdAll.drop : ∀ (n : Nat) {vs : List V} {ds : List D}, DdAll K H vs ds → DdAll K H (vs.drop n) (ds.drop n)
  | 0, _, _, h => h
  | _ + 1, _, _, .nil => .nil
  | n + 1, _, _, .cons h t => DdAll.drop n t
theorem DdAll.set {v : V} {d : D} (h : Dd K H v d) : ∀ (n : Nat) {vs : List V} {ds : List D}, DdAll K H vs ds → DdAll K H (vs.set n v) (ds.set n d)
  | _, _, _, .nil => .nil
  | 0, _, _, .cons _ t => .cons h t
  | n + 1, _, _, .cons a t => .cons a (DdAll.set h n t)
theorem DdAll.reverse : ∀ {vs : List V} {ds : List D}, DdAll K H vs ds → DdAll K H vs.reverse ds.reverse
  | _, _, .nil => .nil
  | _, _, .cons a t => by
    rw [List.reverse_cons, List.reverse_cons]
    exact (DdAll.reverse t).append (.cons a .nil)
theorem DdKv.length : ∀ {v : List (Key × V)} {d : List (Key × D)}, DdKv K H v d → v.length = d.length
  | _, _, .nil => rfl
  | _, _, .cons _ t => congrArg Nat.succ (DdKv.length t)
end

/-! ### cells: what a def knows of its names -/
inductive Cell where
  | un
  | sh (d : D)
  | ol (ds : List D)
  | pl (a : Addr) (ds : List D)
  | ok (kvs : List (Key × D))
  | ot (kvs : List (List Key × D))
abbrev Cs := List Cell
def Cell.owns : Cell → Bool
  | .ol _ => true
  | .pl _ _ => true
  | .ok _ => true
  | .ot _ => true
  | _ => false
/-- a list of the name's own, with new things in it -/
def Cell.ols : Cell → Option (List D)
  | .ol ds => some ds
  | .pl _ ds => some ds
  | _ => none
def Cell.upd : Cell → List D → Cell
  | .pl a _, ds => .pl a ds
  | _, ds => .ol ds
def olAt (x : Option Cell) : Option (List D) := match x with
  | some c => c.ols
  | none => none
def putL (ρ : Cs) (i : Nat) (ds : List D) : Cs := match ρ[i]? with
  | some c => ρ.set i (c.upd ds)
  | none => ρ
/-- a dict with keys of any kind -/
def DdT (K : PySem.W.Frag) (H : Hp) (vs : List (List Key × V)) (ds : List (List Key × D)) : Prop := Paired (fun p q => p.1 = q.1 ∧ Dd K H p.2 q.2) vs ds
theorem DdT.mono {K : PySem.W.Frag} {H H' : Hp} (s : Same H H') {vs : List (List Key × V)} {ds : List (List Key × D)} (h : DdT K H vs ds) : DdT K H' vs ds :=
  Paired.mapP h fun _ _ z => ⟨z.1, z.2.mono s⟩
def CellOk (K : PySem.W.Frag) (Hs H : Hp) (x : Option (Option V)) : Cell → Prop
  | .un => True
  | .sh d => ∃ v, x = some (some v) ∧ Dd K Hs v d
  | .ol ds => ∃ a xs, x = some (some (.ref a)) ∧ Hs a = none ∧ H a = some (.lst xs) ∧ DdAll K Hs xs ds
  | .pl b ds => ∃ a xs, x = some (some (.ref a)) ∧ Hs a = none ∧ H a = some (.lst xs) ∧ DdAll K Hs xs ds ∧ a = b
  | .ok ds => ∃ a xs, x = some (some (.ref a)) ∧ Hs a = none ∧ H a = some (.dK xs) ∧ DdKv K Hs xs ds
  | .ot ds => ∃ a xs, x = some (some (.ref a)) ∧ Hs a = none ∧ H a = some (.dT xs) ∧ DdT K Hs xs ds
/-- Hb: what was shared at the entry; O: what others own; Hs: what is shared now; H: the heap -/
structure Rel (K : PySem.W.Frag) (Hb O Hs H : Hp) (σ : St) (ρ : Cs) : Prop where
  base : Same Hb Hs
  sub : Same Hs H
  out : ∀ a o, O a = some o → Hs a = none ∧ H a = some o
  len : σ.length = ρ.length
  ok : ∀ (i : Nat) (c : Cell), ρ[i]? = some c → CellOk K Hs H σ[i]? c
  ow : ∀ (i : Nat) (c : Cell) (a : Addr), ρ[i]? = some c → c.owns = true → σ[i]? = some (some (.ref a)) → O a = none
  apart : ∀ (i j : Nat) (c e : Cell) (a : Addr), i ≠ j → ρ[i]? = some c → ρ[j]? = some e → c.owns = true → e.owns = true → σ[i]? = some (some (.ref a)) → σ[j]? ≠ some (some (.ref a))
theorem olAt_some {x : Option Cell} {ds : List D} (h : olAt x = some ds) : ∃ c, x = some c ∧ c.ols = some ds ∧ c.owns = true := by
  cases x with
  | none => cases h
  | some c => cases c <;> first | (cases h; exact ⟨_, rfl, rfl, rfl⟩) | cases h
theorem CellOk.ol {K : PySem.W.Frag} {Hs H : Hp} {x : Option (Option V)} {c : Cell} {ds : List D} (h : CellOk K Hs H x c) (e : c.ols = some ds) : ∃ a xs, x = some (some (.ref a)) ∧ Hs a = none ∧ H a = some (.lst xs) ∧ DdAll K Hs xs ds ∧
    ∀ Hs' H' xs' ds', Hs' a = none → H' a = some (.lst xs') → DdAll K Hs' xs' ds' → CellOk K Hs' H' x (c.upd ds') := by
  cases c with
  | ol ds =>
    obtain ⟨a, xs, e1, n, h1, t⟩ := h
    cases e
    exact ⟨a, xs, e1, n, h1, t, fun Hs' H' xs' ds' p q r => ⟨a, xs', e1, p, q, r⟩⟩
  | pl b ds =>
    obtain ⟨a, xs, e1, n, h1, t, z⟩ := h
    cases e
    exact ⟨a, xs, e1, n, h1, t, fun Hs' H' xs' ds' p q r => ⟨a, xs', e1, p, q, r, z⟩⟩
  | _ => cases e
/-- what a call leaves -/
structure Ext (Hs H Hs' H' : Hp) : Prop where
  sh : Same Hs Hs'
  sub : Same Hs' H'
  out : ∀ a o, Hs a = none → H a = some o → Hs' a = none ∧ H' a = some o
theorem CellOk.addr {K : PySem.W.Frag} {Hs H : Hp} {x : Option (Option V)} {c : Cell} (h : CellOk K Hs H x c) (o : c.owns = true) : ∃ a u, x = some (some (.ref a)) ∧ Hs a = none ∧ H a = some u := by
  cases c with
  | un => cases o
  | sh d => cases o
  | ol ds => obtain ⟨a, xs, e, n, h, _⟩ := h; exact ⟨a, _, e, n, h⟩
  | pl b ds => obtain ⟨a, xs, e, n, h, _⟩ := h; exact ⟨a, _, e, n, h⟩
  | ok ds => obtain ⟨a, xs, e, n, h, _⟩ := h; exact ⟨a, _, e, n, h⟩
  | ot ds => obtain ⟨a, xs, e, n, h, _⟩ := h; exact ⟨a, _, e, n, h⟩
/-- a cell stays where what it leans on stays -/
theorem CellOk.stay {K : PySem.W.Frag} {Hs H Hs' H' : Hp} {x : Option (Option V)} {c : Cell} (h : CellOk K Hs H x c) (s : Same Hs Hs')
    (k : ∀ a o, c.owns = true → x = some (some (.ref a)) → Hs a = none → H a = some o → Hs' a = none ∧ H' a = some o) : CellOk K Hs' H' x c := by
  cases c with
  | un => trivial
  | sh d => obtain ⟨v, e, h⟩ := h; exact ⟨v, e, h.mono s⟩
  | ol ds =>
    obtain ⟨a, xs, e, n, h, t⟩ := h
    obtain ⟨n', h'⟩ := k a _ rfl e n h
    exact ⟨a, xs, e, n', h', t.mono s⟩
  | pl b ds =>
    obtain ⟨a, xs, e, n, h, t, q⟩ := h
    obtain ⟨n', h'⟩ := k a _ rfl e n h
    exact ⟨a, xs, e, n', h', t.mono s, q⟩
  | ok ds =>
    obtain ⟨a, xs, e, n, h, t⟩ := h
    obtain ⟨n', h'⟩ := k a _ rfl e n h
    exact ⟨a, xs, e, n', h', t.mono s⟩
  | ot ds =>
    obtain ⟨a, xs, e, n, h, t⟩ := h
    obtain ⟨n', h'⟩ := k a _ rfl e n h
    exact ⟨a, xs, e, n', h', t.mono s⟩
section
variable {K : PySem.W.Frag} {Hb O Hs H Hs' H' : Hp} {σ : St} {ρ : Cs} {i : Nat} {p : Addr}
theorem Ext.refl (s : Same Hs H) : Ext Hs H Hs H := ⟨Same.refl _, s, fun _ _ n h => ⟨n, h⟩⟩
theorem Ext.new {o : HO} (s : Same Hs H) (hp : H p = none) : Ext Hs H (upd Hs p o) (upd H p o) := by
  have hs : Hs p = none := s.free hp
  refine ⟨fun b u e => ?_, fun b u e => ?_, fun b u n e => ?_⟩
  · rw [upd_ne (ne_of_none e hs)]; exact e
  · by_cases hb : b = p
    · subst hb; rw [upd_same] at e ⊢; exact e
    · rw [upd_ne hb] at e ⊢; exact s _ _ e
  · have hb := ne_of_none e hp
    rw [upd_ne hb, upd_ne hb]; exact ⟨n, e⟩
theorem Rel.ext (r : Rel K Hb O Hs H σ ρ) (x : Ext Hs H Hs' H') : Rel K Hb O Hs' H' σ ρ where
  base := r.base.trans x.sh
  sub := x.sub
  out := fun a o e => by obtain ⟨n, h⟩ := r.out a o e; exact x.out a o n h
  len := r.len
  ok := fun i c e => (r.ok i c e).stay x.sh fun a o _ _ n h => x.out a o n h
  ow := r.ow
  apart := r.apart
theorem Rel.new {o : HO} (r : Rel K Hb O Hs H σ ρ) (hp : H p = none) : Rel K Hb O (upd Hs p o) (upd H p o) σ ρ := r.ext (Ext.new r.sub hp)
theorem Rel.var {d : D} (r : Rel K Hb O Hs H σ ρ) (e : ρ[i]? = some (.sh d)) : ∃ v, σ[i]? = some (some v) ∧ Dd K Hs v d := r.ok i _ e
theorem getElem?_set' {α : Type} {l : List α} {i j : Nat} {x c : α} (e : (l.set i x)[j]? = some c) : (j = i ∧ c = x) ∨ (j ≠ i ∧ l[j]? = some c) := by
  by_cases h : j = i
  · subst h
    have hl : j < l.length := by
      have := (List.getElem?_eq_some_iff.mp e).1
      simpa using this
    rw [List.getElem?_set_self hl] at e
    exact .inl ⟨rfl, (Option.some.inj e).symm⟩
  · rw [List.getElem?_set_ne (Ne.symm h)] at e
    exact .inr ⟨h, e⟩
theorem set_at {α : Type} {l : List α} {i : Nat} {x : α} (h : i < l.length) : (l.set i x)[i]? = some x := List.getElem?_set_self h
theorem Rel.lt {c : Cell} (r : Rel K Hb O Hs H σ ρ) (e : ρ[i]? = some c) : i < σ.length := by
  rw [r.len]; exact (List.getElem?_eq_some_iff.mp e).1
/-- a shared value is stored in a name -/
theorem Rel.store {v : V} {d : D} (r : Rel K Hb O Hs H σ ρ) (h : Dd K Hs v d) : Rel K Hb O Hs H (σ.set i (some v)) (ρ.set i (.sh d)) where
  base := r.base
  sub := r.sub
  out := r.out
  len := by rw [List.length_set, List.length_set]; exact r.len
  ok := fun j c e => by
    rcases getElem?_set' e with ⟨rfl, rfl⟩ | ⟨n, e⟩
    · have hl : j < σ.length := by
        have := (List.getElem?_eq_some_iff.mp e).1
        rw [r.len]; simpa using this
      exact ⟨v, set_at hl, h⟩
    · rw [List.getElem?_set_ne (Ne.symm n)]; exact r.ok j c e
  ow := fun j c a e o s => by
    rcases getElem?_set' e with ⟨rfl, rfl⟩ | ⟨n, e⟩
    · cases o
    · rw [List.getElem?_set_ne (Ne.symm n)] at s; exact r.ow j c a e o s
  apart := fun j l c f a n e1 e2 o1 o2 s => by
    rcases getElem?_set' e1 with ⟨rfl, rfl⟩ | ⟨n1, e1⟩
    · cases o1
    · rcases getElem?_set' e2 with ⟨rfl, rfl⟩ | ⟨n2, e2⟩
      · cases o2
      · rw [List.getElem?_set_ne (Ne.symm n1)] at s
        rw [List.getElem?_set_ne (Ne.symm n2)]
        exact r.apart j l c f a n e1 e2 o1 o2 s
/-- a cell is forgotten -/
theorem Rel.forget (r : Rel K Hb O Hs H σ ρ) (x : Option V) : Rel K Hb O Hs H (σ.set i x) (ρ.set i .un) where
  base := r.base
  sub := r.sub
  out := r.out
  len := by rw [List.length_set, List.length_set]; exact r.len
  ok := fun j c e => by
    rcases getElem?_set' e with ⟨rfl, rfl⟩ | ⟨n, e⟩
    · trivial
    · rw [List.getElem?_set_ne (Ne.symm n)]; exact r.ok j c e
  ow := fun j c a e o s => by
    rcases getElem?_set' e with ⟨rfl, rfl⟩ | ⟨n, e⟩
    · cases o
    · rw [List.getElem?_set_ne (Ne.symm n)] at s; exact r.ow j c a e o s
  apart := fun j l c f a n e1 e2 o1 o2 s => by
    rcases getElem?_set' e1 with ⟨rfl, rfl⟩ | ⟨n1, e1⟩
    · cases o1
    · rcases getElem?_set' e2 with ⟨rfl, rfl⟩ | ⟨n2, e2⟩
      · cases o2
      · rw [List.getElem?_set_ne (Ne.symm n1)] at s
        rw [List.getElem?_set_ne (Ne.symm n2)]
        exact r.apart j l c f a n e1 e2 o1 o2 s
/-- what others own and this def has newly made comes to a name -/
theorem Rel.take {o : HO} {c : Cell} (r : Rel K Hb (upd O p o) Hs H σ ρ) (hO : O p = none) (hi : i < ρ.length) (hc : CellOk K Hs H (some (some (.ref p))) c) : Rel K Hb O Hs H (σ.set i (some (.ref p))) (ρ.set i c) := by
  have hiσ : i < σ.length := by rw [r.len]; exact hi
  have np : ∀ (j : Nat) (e : Cell), ρ[j]? = some e → e.owns = true → ∀ a, σ[j]? = some (some (.ref a)) → a ≠ p := fun j e h o a s z => by
    subst z
    have q := r.ow j e a h o s
    rw [upd_same] at q
    cases q
  refine ⟨r.base, r.sub, fun a u e => ?_, by rw [List.length_set, List.length_set]; exact r.len, fun j e h => ?_, fun j e a h ho s => ?_, fun j l e f a n h1 h2 o1 o2 s => ?_⟩
  · exact r.out a u (by rw [upd_ne (ne_of_none e hO)]; exact e)
  · rcases getElem?_set' h with ⟨rfl, rfl⟩ | ⟨n, h⟩
    · rw [set_at hiσ]; exact hc
    · rw [List.getElem?_set_ne (Ne.symm n)]; exact r.ok j e h
  · rcases getElem?_set' h with ⟨rfl, rfl⟩ | ⟨n, h⟩
    · rw [set_at hiσ] at s
      cases s
      exact hO
    · rw [List.getElem?_set_ne (Ne.symm n)] at s
      have q := r.ow j e a h ho s
      rw [upd_ne (np j e h ho a s)] at q
      exact q
  · rcases getElem?_set' h1 with ⟨rfl, rfl⟩ | ⟨n1, k1⟩
    · rcases getElem?_set' h2 with ⟨rfl, rfl⟩ | ⟨n2, k2⟩
      · exact absurd rfl n
      · rw [set_at hiσ] at s
        cases s
        rw [List.getElem?_set_ne (Ne.symm n2)]
        exact fun z => np l f k2 o2 p z rfl
    · rcases getElem?_set' h2 with ⟨rfl, rfl⟩ | ⟨n2, k2⟩
      · rw [set_at hiσ]
        rw [List.getElem?_set_ne (Ne.symm n1)] at s
        intro z
        cases z
        exact np j e k1 o1 p s rfl
      · rw [List.getElem?_set_ne (Ne.symm n1)] at s
        rw [List.getElem?_set_ne (Ne.symm n2)]
        exact r.apart j l e f a n k1 k2 o1 o2 s
/-- .. is shared -/
theorem Rel.share {o : HO} (r : Rel K Hb (upd O p o) Hs H σ ρ) (hO : O p = none) : Rel K Hb O (upd Hs p o) H σ ρ ∧ Same Hs (upd Hs p o) := by
  obtain ⟨n0, h0⟩ := r.out p o upd_same
  have sm : Same Hs (upd Hs p o) := fun b u e => by rw [upd_ne (ne_of_none e n0)]; exact e
  have np : ∀ (j : Nat) (e : Cell), ρ[j]? = some e → e.owns = true → ∀ a, σ[j]? = some (some (.ref a)) → a ≠ p := fun j e h o' a s z => by
    subst z
    have q := r.ow j e a h o' s
    rw [upd_same] at q
    cases q
  refine ⟨⟨r.base.trans sm, fun b u e => ?_, fun a u e => ?_, r.len, fun j e h => (r.ok j e h).stay sm fun a u ho s n h' => ?_, fun j e a h ho s => ?_, r.apart⟩, sm⟩
  · by_cases hb : b = p
    · subst hb; rw [upd_same] at e; cases e; exact h0
    · rw [upd_ne hb] at e; exact r.sub _ _ e
  · have hb := ne_of_none e hO
    rw [upd_ne hb]
    exact r.out a u (by rw [upd_ne hb]; exact e)
  · rw [upd_ne (np j e h ho a s)]
    exact ⟨n, h'⟩
  · have q := r.ow j e a h ho s
    rw [upd_ne (np j e h ho a s)] at q
    exact q
/-- .. is newly laid -/
theorem Rel.lay {o : HO} (r : Rel K Hb O Hs H σ ρ) (hp : H p = none) : Rel K Hb (upd O p o) Hs (upd H p o) σ ρ ∧ O p = none := by
  have hs : Hs p = none := r.sub.free hp
  have hO : O p = none := by
    cases e : O p with
    | none => rfl
    | some u => obtain ⟨_, h⟩ := r.out p u e; rw [hp] at h; cases h
  refine ⟨⟨r.base, fun b u e => ?_, fun a u e => ?_, r.len, fun j e h => (r.ok j e h).stay (Same.refl _) fun a u ho s n h' => ?_, fun j e a h ho s => ?_, r.apart⟩, hO⟩
  · rw [upd_ne (ne_of_none (r.sub _ _ e) hp)]; exact r.sub _ _ e
  · by_cases hb : a = p
    · subst hb; rw [upd_same] at e ⊢; exact ⟨hs, e⟩
    · rw [upd_ne hb] at e ⊢; exact r.out a u e
  · rw [upd_ne (ne_of_none h' hp)]; exact ⟨n, h'⟩
  · obtain ⟨a', u, s', _, h'⟩ := (r.ok j e h).addr ho
    rw [s] at s'
    cases s'
    rw [upd_ne (ne_of_none h' hp)]
    exact r.ow j e a h ho s
/-- .. is changed -/
theorem Rel.turn {o u : HO} (r : Rel K Hb (upd O p o) Hs H σ ρ) (hO : O p = none) : Rel K Hb (upd O p u) Hs (upd H p u) σ ρ := by
  obtain ⟨n0, h0⟩ := r.out p o upd_same
  have np : ∀ (j : Nat) (e : Cell), ρ[j]? = some e → e.owns = true → ∀ a, σ[j]? = some (some (.ref a)) → a ≠ p := fun j e h o' a s z => by
    subst z
    have q := r.ow j e a h o' s
    rw [upd_same] at q
    cases q
  refine ⟨r.base, fun b z e => ?_, fun a z e => ?_, r.len, fun j e h => (r.ok j e h).stay (Same.refl _) fun a z ho s n h' => ?_, fun j e a h ho s => ?_, r.apart⟩
  · rw [upd_ne (ne_of_none e n0)]; exact r.sub _ _ e
  · by_cases hb : a = p
    · subst hb; rw [upd_same] at e ⊢; exact ⟨n0, e⟩
    · rw [upd_ne hb] at e ⊢; exact r.out a z (by rw [upd_ne hb]; exact e)
  · rw [upd_ne (np j e h ho a s)]; exact ⟨n, h'⟩
  · have q := r.ow j e a h ho s
    have nn := np j e h ho a s
    rw [upd_ne nn] at q
    rw [upd_ne nn]; exact q
/-- a name's own object goes to the others -/
theorem Rel.give {c : Cell} {o : HO} (r : Rel K Hb O Hs H σ ρ) (e : ρ[i]? = some c) (ho : c.owns = true) (s : σ[i]? = some (some (.ref p))) (h : H p = some o) : Rel K Hb (upd O p o) Hs H σ (ρ.set i .un) ∧ O p = none := by
  have hO := r.ow i c p e ho s
  obtain ⟨a', u, s', n0, _⟩ := (r.ok i c e).addr ho
  rw [s] at s'
  cases s'
  refine ⟨⟨r.base, r.sub, fun a z q => ?_, by rw [List.length_set]; exact r.len, fun j f k => ?_, fun j f a k hf t => ?_, fun j l f g a n k1 k2 o1 o2 t => ?_⟩, hO⟩
  · by_cases hb : a = p
    · subst hb; rw [upd_same] at q; cases q; exact ⟨n0, h⟩
    · rw [upd_ne hb] at q; exact r.out a z q
  · rcases getElem?_set' k with ⟨rfl, rfl⟩ | ⟨n, k⟩
    · trivial
    · exact r.ok j f k
  · rcases getElem?_set' k with ⟨rfl, rfl⟩ | ⟨n, k⟩
    · cases hf
    · have q := r.ow j f a k hf t
      have na : a ≠ p := fun z => by subst z; exact r.apart i j c f a (Ne.symm n) e k ho hf s t
      rw [upd_ne na]; exact q
  · rcases getElem?_set' k1 with ⟨rfl, rfl⟩ | ⟨n1, k1⟩
    · cases o1
    · rcases getElem?_set' k2 with ⟨rfl, rfl⟩ | ⟨n2, k2⟩
      · cases o2
      · exact r.apart j l f g a n k1 k2 o1 o2 t
theorem set_same {α : Type} {l : List α} {i : Nat} {x : α} (h : l[i]? = some x) : l.set i x = l := by
  obtain ⟨hl, e⟩ := List.getElem?_eq_some_iff.mp h
  rw [← e]
  exact List.set_getElem_self hl
/-- a name's own object is changed -/
theorem Rel.mut {c c' : Cell} {o : HO} (r : Rel K Hb O Hs H σ ρ) (e : ρ[i]? = some c) (ho : c.owns = true) (s : σ[i]? = some (some (.ref p))) (hc : ∀ H', H' p = some o → CellOk K Hs H' (some (some (.ref p))) c') : Rel K Hb O Hs (upd H p o) σ (ρ.set i c') := by
  obtain ⟨a', u, s', n0, h⟩ := (r.ok i c e).addr ho
  rw [s] at s'
  cases s'
  obtain ⟨g, hO⟩ := r.give e ho s h
  have t := (g.turn (u := o) hO).take (i := i) hO (by rw [List.length_set]; exact (List.getElem?_eq_some_iff.mp e).1) (hc _ upd_same)
  rw [set_same s, List.set_set] at t
  exact t
/-- a name's own object is shared -/
theorem Rel.demote {c : Cell} {o : HO} {d : D} (r : Rel K Hb O Hs H σ ρ) (e : ρ[i]? = some c) (ho : c.owns = true) (s : σ[i]? = some (some (.ref p))) (h : H p = some o) (hd : Dd K (upd Hs p o) (.ref p) d) : Rel K Hb O (upd Hs p o) H σ (ρ.set i (.sh d)) ∧ Same Hs (upd Hs p o) := by
  obtain ⟨g, hO⟩ := r.give e ho s h
  obtain ⟨k, sm⟩ := g.share hO
  have t := k.store (i := i) hd
  rw [set_same s, List.set_set] at t
  exact ⟨t, sm⟩
end
end PD

namespace PD
open PySem PySem.Spec L2

/-! ### judgements over data -/
abbrev FE := Cs → (D → Cs → Prop) → Prop
abbrev FA := Cs → (List D → Cs → Prop) → Prop
abbrev FT := Cs → (Bool → Cs → Prop) → Prop
structure EndsD where
  nx : Cs → Prop
  rt : D → Cs → Prop
  bk : Cs → Prop := fun _ => False
  ct : Cs → Prop := fun _ => False
abbrev FS := EndsD → Cs → Prop
abbrev FG := D → Cs → (Cs → Prop) → Prop
section
variable (K : PySem.W.Frag)
def tE (f : FE) : TE := fun σ H Q => ∃ Hb O Hs ρ R, Rel K Hb O Hs H σ ρ ∧ f ρ R ∧ ∀ v H' Hs' d ρ', Same Hs Hs' → Rel K Hb O Hs' H' σ ρ' → Dd K Hs' v d → R d ρ' → Q v H'
def tAr (f : FA) : TA := fun σ H Q => ∃ Hb O Hs ρ R, Rel K Hb O Hs H σ ρ ∧ f ρ R ∧ ∀ vs H' Hs' ds ρ', Same Hs Hs' → Rel K Hb O Hs' H' σ ρ' → DdAll K Hs' vs ds → R ds ρ' → Q vs H'
def tTe (f : FT) : TT := fun σ H Q => ∃ Hb O Hs ρ R, Rel K Hb O Hs H σ ρ ∧ f ρ R ∧ ∀ b H' Hs' ρ', Same Hs Hs' → Rel K Hb O Hs' H' σ ρ' → R b ρ' → Q b H'
/-- a new list, owned by nobody yet -/
def tFr (f : FA) : TE := fun σ H Q => ∃ Hb O Hs ρ R, Rel K Hb O Hs H σ ρ ∧ f ρ R ∧ ∀ p xs H' Hs' ds ρ', Same Hs Hs' → Rel K Hb (upd O p (.lst xs)) Hs' H' σ ρ' → O p = none → DdAll K Hs' xs ds → R ds ρ' → Q (.ref p) H'
structure Link (Hb O : Hp) (DD : EndsD) (E : Ends) : Prop where
  nx : ∀ σ H Hs ρ, Rel K Hb O Hs H σ ρ → DD.nx ρ → E.nx σ H
  rt : ∀ v σ H Hs ρ d, Rel K Hb O Hs H σ ρ → Dd K Hs v d → DD.rt d ρ → E.rt v H
  bk : ∀ σ H Hs ρ, Rel K Hb O Hs H σ ρ → DD.bk ρ → E.bk σ H
  ct : ∀ σ H Hs ρ, Rel K Hb O Hs H σ ρ → DD.ct ρ → E.ct σ H
def tSt (f : FS) : TS := fun E σ H => ∃ Hb O Hs ρ DD, Rel K Hb O Hs H σ ρ ∧ f DD ρ ∧ Link K Hb O DD E
def tGo (f : FG) : TG := fun v σ H Q => ∃ Hb O Hs ρ d R, Rel K Hb O Hs H σ ρ ∧ Dd K Hs v d ∧ f d ρ R ∧ ∀ σ' H' Hs' ρ', Same Hs Hs' → Rel K Hb O Hs' H' σ' ρ' → R ρ' → Q σ' H'
/-- an iterator over data -/
def Iters (J : It) (items : List D) (H0 : Hp) : Prop := ∃ (G : Hp → Prop) (Y : Nat → Hp → V → Hp → Prop), Walk J items.length G Y ∧ (∀ Hs H, Same H0 Hs → Same Hs H → G H) ∧
  ∀ i Hs H x H', Same H0 Hs → Same Hs H → i < items.length → Y i H x H' → ∃ d Hs', items[i]? = some d ∧ Ext Hs H Hs' H' ∧ Dd K Hs' x d
def tIt (f : FA) : TI := fun σ H R => ∃ Hb O Hs ρ S, Rel K Hb O Hs H σ ρ ∧ f ρ S ∧ ∀ J H' Hs' items ρ', Same Hs Hs' → Rel K Hb O Hs' H' σ ρ' → Iters K J items Hs' → S items ρ' → R J H'
end
section
variable (X : Cx)
def EV (e : Expr) (f : FE) : Prop := PE X e (tE X.K f)
def AV (es : List Expr) (f : FA) : Prop := PA X es (tAr X.K f)
def TV (e : Expr) (f : FT) : Prop := PT X e (tTe X.K f)
def WV (e : Expr) (f : FT) : Prop := PW X e (tTe X.K f)
def LV (e : Expr) (f : FA) : Prop := PE X e (tFr X.K f)
def CV (op : CmpOp) (a b : Expr) (f : FE) : Prop := PC X op a b (tE X.K f)
def SV (st : Stmt) (f : FS) : Prop := PS X st (tSt X.K f)
def BV (sts : List Stmt) (f : FS) : Prop := PSs X sts (tSt X.K f)
def GV (tg : Expr) (f : FG) : Prop := PG X tg (tGo X.K f)
def IV (tg iter : Expr) (f : FA) : Prop := PI X tg iter (tIt X.K f)
end
section
variable {X : Cx}
theorem weakE {e : Expr} {t t' : TE} (h : PE X e t) (w : ∀ σ H Q, t' σ H Q → t σ H Q) : PE X e t' := ⟨fun pins s σ H Q I q => h.run pins s σ H Q I (w σ H Q q)⟩
theorem weakT {e : Expr} {t t' : TT} (h : PT X e t) (w : ∀ σ H Q, t' σ H Q → t σ H Q) : PT X e t' := ⟨fun pins s σ H Q I q => h.run pins s σ H Q I (w σ H Q q)⟩
theorem weakW {e : Expr} {t t' : TT} (h : PW X e t) (w : ∀ σ H Q, t' σ H Q → t σ H Q) : PW X e t' := ⟨fun wh pins s σ H Q I q => h.run wh pins s σ H Q I (w σ H Q q)⟩
theorem weakA {es : List Expr} {t t' : TA} (h : PA X es t) (w : ∀ σ H Q, t' σ H Q → t σ H Q) : PA X es t' := ⟨fun pos pins s σ H Q I q => h.run pos pins s σ H Q I (w σ H Q q)⟩
theorem weakS {st : Stmt} {t t' : TS} (h : PS X st t) (w : ∀ E σ H, t' E σ H → t E σ H) : PS X st t' := ⟨fun pins s σ H E I q => h.run pins s σ H E I (w E σ H q)⟩
theorem weakB {st : List Stmt} {t t' : TS} (h : PSs X st t) (w : ∀ E σ H, t' E σ H → t E σ H) : PSs X st t' := ⟨fun pins s σ H E I q => h.run pins s σ H E I (w E σ H q)⟩
theorem weakG {tg : Expr} {t t' : TG} (h : PG X tg t) (w : ∀ v σ H Q, t' v σ H Q → t v σ H Q) : PG X tg t' := ⟨fun pins s σ H v u Q I r q => h.run pins s σ H v u Q I r (w v σ H Q q)⟩
theorem weakI {tg iter : Expr} {t t' : TI} (h : PI X tg iter t) (w : ∀ σ H R, t' σ H R → t σ H R) : PI X tg iter t' := ⟨fun pins s σ H R I q => h.run pins s σ H R I (w σ H R q)⟩
theorem weakC {op : CmpOp} {a b : Expr} {t t' : TE} (h : PC X op a b t) (w : ∀ σ H Q, t' σ H Q → t σ H Q) : PC X op a b t' := ⟨fun pins s σ H Q I q => h.run pins s σ H Q I (w σ H Q q)⟩
end

/-! ### names, and constants -/
section
variable {X : Cx} {pos : Pos}
def fVar (i : Nat) : FE := fun ρ R => match ρ[i]? with
  | some (.sh d) => R d ρ
  | _ => False
theorem ev_var (i : Nat) {x : Str} {pos : Pos} (hN : X.N[i]? = some x := by rfl) (hv : Vis X.env.scope x := by first | exact Or.inl rfl | exact Or.inr (Or.inl rfl) | exact Or.inr (Or.inr rfl)) (hd : (x == ("__debug__" : Str)) = false := by decide)
    (hcd : (x == ("__classdict__" : Str)) = false := by decide) : EV X (.Name x pos) (fVar i) := by
  refine weakE (pe_var hN hv hd hcd) fun σ H Q h => ?_
  obtain ⟨Hb, O, Hs, ρ, R, r, hf, k⟩ := h
  unfold fVar at hf
  split at hf
  · rename_i d e
    obtain ⟨v, e1, h1⟩ := r.var e
    exact ⟨v, e1, k v H Hs d ρ (Same.refl _) r h1 hf⟩
  · exact hf.elim
def fC (d : D) : FE := fun ρ R => R d ρ
theorem fC_of {e : Expr} {v : V} {d : D} (h : PE X e (tC v)) (hd : ∀ H, Dd X.K H v d) : EV X e (fC d) := by
  refine weakE h fun σ H Q h => ?_
  obtain ⟨Hb, O, Hs, ρ, R, r, hf, k⟩ := h
  exact k v H Hs d ρ (Same.refl _) r (hd _) hf
theorem ev_int {i j} : EV X (.Constant (.int i) j pos) (fC (.int i)) := fC_of pe_int fun _ => .int _
theorem ev_bl {b j} : EV X (.Constant (.bool b) j pos) (fC (.bl b)) := fC_of pe_bl fun _ => .bl _
theorem ev_non {j} : EV X (.Constant .none j pos) (fC .non) := fC_of pe_non fun _ => .non
theorem ev_str {x j} : EV X (.Constant (.str x) j pos) (fC (.str x)) := fC_of pe_str fun _ => .str _
/-- a constant of the module -/
theorem ev_gint {x : Str} {i : Int} {t : Tok} (hm : X.mg x = some (.int i t)) (hg : Gl X x := by rfl) (hd : (x == ("__debug__" : Str)) = false := by decide) : EV X (.Name x pos) (fC (.int i)) := fC_of (pe_glob (v := .int i) hg hm ⟨t, rfl⟩ hd) fun _ => .int _
theorem ev_gstr {x y : Str} {t : Tok} (hm : X.mg x = some (.str y t)) (hg : Gl X x := by rfl) (hd : (x == ("__debug__" : Str)) = false := by decide) : EV X (.Name x pos) (fC (.str y)) := fC_of (pe_glob (v := .str y) hg hm ⟨t, rfl⟩ hd) fun _ => .str _
theorem ev_gref {x : Str} {a : Addr} {d : D} (hm : X.mg x = some (.ref a)) (h : ∀ H, Dd X.K H (.ref a) d) (hg : Gl X x := by rfl) (hd : (x == ("__debug__" : Str)) = false := by decide) : EV X (.Name x pos) (fC d) := fC_of (pe_glob (v := .ref a) hg hm rfl hd) h
end

/-! ### operators by values -/
/-- what a binary operator's reading asks, over data -/
def OpD (K : PySem.W.Frag) (r : R2) (g : D → D → (D → Prop) → Prop) : Prop := ∀ {Hs H : Hp} {x y : V} {d e : D} {Q : VK} {P : D → Prop}, Same Hs H → Dd K Hs x d → Dd K Hs y e → g d e P →
  (∀ v H' Hs' d', Ext Hs H Hs' H' → Dd K Hs' v d' → P d' → Q v H') → r x y H Q
def UnD (K : PySem.W.Frag) (r : V → Hp → VK → Prop) (g : D → (D → Prop) → Prop) : Prop := ∀ {Hs H : Hp} {x : V} {d : D} {Q : VK} {P : D → Prop}, Same Hs H → Dd K Hs x d → g d P →
  (∀ v H' Hs' d', Ext Hs H Hs' H' → Dd K Hs' v d' → P d' → Q v H') → r x H Q
def CaD (K : PySem.W.Frag) (r : List V → Hp → VK → Prop) (g : List D → (D → Prop) → Prop) : Prop := ∀ {Hs H : Hp} {xs : List V} {ds : List D} {Q : VK} {P : D → Prop}, Same Hs H → DdAll K Hs xs ds → g ds P →
  (∀ v H' Hs' d', Ext Hs H Hs' H' → Dd K Hs' v d' → P d' → Q v H') → r xs H Q
def fOp (g : D → D → (D → Prop) → Prop) (fa fb : FE) : FE := fun ρ R => fa ρ fun d ρ1 => fb ρ1 fun e ρ2 => g d e fun z => R z ρ2
def fUn (g : D → (D → Prop) → Prop) (fa : FE) : FE := fun ρ R => fa ρ fun d ρ1 => g d fun z => R z ρ1
def fCa (g : List D → (D → Prop) → Prop) (fa : FA) : FE := fun ρ R => fa ρ fun ds ρ1 => g ds fun z => R z ρ1
section
variable {X : Cx} {pos p : Pos} {a b : Expr} {fa fb : FE} {r : R2} {g : D → D → (D → Prop) → Prop}
theorem opBody (hr : OpD X.K r g) {σ : L2.St} {H : Hp} {Q : VK} (h : tE X.K (fOp g fa fb) σ H Q) : tOp r (tE X.K fa) (tE X.K fb) σ H Q := by
  obtain ⟨Hb, O, Hs, ρ, R, rl, hf, k⟩ := h
  refine ⟨Hb, O, Hs, ρ, _, rl, hf, fun x H1 Hs1 d ρ1 s1 r1 h1 q1 => ⟨Hb, O, Hs1, ρ1, _, r1, q1, fun y H2 Hs2 e ρ2 s2 r2 h2 q2 => ?_⟩⟩
  exact hr r2.sub (h1.mono s2) h2 q2 fun v H3 Hs3 z x3 h3 q3 => k v H3 Hs3 z ρ2 ((s1.trans s2).trans x3.sh) (r2.ext x3) h3 q3
theorem ev_op {op : Operator} (ho : OpR X (binaryOp op) r) (hr : OpD X.K r g) (ha : EV X a fa) (hb : EV X b fb) : EV X (.BinOp a op b pos) (fOp g fa fb) :=
  weakE (pe_op ho ha hb) fun _ _ _ => opBody hr
theorem ev_cmp {op : CmpOp} (ho : OpR X (compareOp op) r) (hr : OpD X.K r g) (ha : EV X a fa) (hb : EV X b fb) (hm : behindInMarks op b = false) : EV X (.Compare a [op] [b] pos) (fOp g fa fb) :=
  weakE (pe_cmpR ho ha hb hm) fun _ _ _ => opBody hr
theorem ev_un {op : UnaryOp} {r : V → Hp → VK → Prop} {g : D → (D → Prop) → Prop} (ho : UnR X (unaryOp op) r) (hr : UnD X.K r g) (ha : EV X a fa) : EV X (.UnaryOp op a pos) (fUn g fa) := by
  refine weakE (pe_un ho ha) fun σ H Q h => ?_
  obtain ⟨Hb, O, Hs, ρ, R, rl, hf, k⟩ := h
  exact ⟨Hb, O, Hs, ρ, _, rl, hf, fun x H1 Hs1 d ρ1 s1 r1 h1 q1 => hr r1.sub h1 q1 fun v H3 Hs3 z x3 h3 q3 => k v H3 Hs3 z ρ1 (s1.trans x3.sh) (r1.ext x3) h3 q3⟩
/-- as a test: its value is a bool -/
def fBo (f : FE) : FT := fun ρ R => f ρ fun d ρ1 => match d with
  | .bl b => R b ρ1
  | _ => False
theorem boBody {f : FE} {σ : L2.St} {H : Hp} {Q : Bool → Hp → Prop} (h : tTe X.K (fBo f) σ H Q) : tE X.K f σ H fun x H1 => ∃ c, x = .bl c ∧ Q c H1 := by
  obtain ⟨Hb, O, Hs, ρ, R, rl, hf, k⟩ := h
  refine ⟨Hb, O, Hs, ρ, _, rl, hf, fun x H1 Hs1 d ρ1 s1 r1 h1 q1 => ?_⟩
  split at q1
  · cases h1
    exact ⟨_, rfl, k _ H1 Hs1 ρ1 s1 r1 q1⟩
  · exact q1.elim
theorem tv_val {e : Expr} {f : FE} (h : EV X e f) (he : ∀ whole, isTrue e X.env whole = (do let v ← whole; standAt e.pos; holding [v] (truthy v)) := by intro _; rfl) : TV X e (fBo f) :=
  weakT (pt_val h he) fun _ _ _ => boBody
theorem tv_cmp {op : CmpOp} (ho : OpR X (compareOp op) r) (hr : OpD X.K r g) (ha : EV X a fa) (hb : EV X b fb) (hm : behindInMarks op b = false) : TV X (.Compare a [op] [b] pos) (fBo (fOp g fa fb)) :=
  weakT (pt_cmpR ho ha hb hm) fun σ H Q h => by
    obtain ⟨Hb, O, Hs, ρ, R, rl, hf, k⟩ := boBody h
    exact opBody hr ⟨Hb, O, Hs, ρ, R, rl, hf, k⟩
/-- a op b op' c -/
def fCh (g g' : D → D → (D → Prop) → Prop) (fa fb fc : FE) : FE := fun ρ R => fa ρ fun x ρ1 => fb ρ1 fun y ρ2 => g x y fun z => match z with
  | .bl t => if t = true then fc ρ2 fun w ρ3 => g' y w fun u => R u ρ3 else R (.bl false) ρ2
  | _ => False
theorem chBody {c : Expr} {fc : FE} {r' : R2} {g' : D → D → (D → Prop) → Prop} (hr : OpD X.K r g) (hr' : OpD X.K r' g') {σ : L2.St} {H : Hp} {Q : VK} (h : tE X.K (fCh g g' fa fb fc) σ H Q) : tChain r r' (tE X.K fa) (tE X.K fb) (tE X.K fc) σ H Q := by
  obtain ⟨Hb, O, Hs, ρ, R, rl, hf, k⟩ := h
  refine ⟨Hb, O, Hs, ρ, _, rl, hf, fun x H1 Hs1 d ρ1 s1 r1 h1 q1 => ⟨Hb, O, Hs1, ρ1, _, r1, q1, fun y H2 Hs2 e ρ2 s2 r2 h2 q2 => ?_⟩⟩
  refine hr r2.sub (h1.mono s2) h2 q2 fun v H3 Hs3 z x3 h3 q3 => ?_
  split at q3
  · rename_i t
    cases h3
    refine ⟨t, rfl, ?_⟩
    cases t with
    | true =>
      rw [if_pos rfl] at q3 ⊢
      refine ⟨Hb, O, Hs3, ρ2, _, r2.ext x3, q3, fun w H4 Hs4 dw ρ4 s4 r4 h4 q4 => ?_⟩
      exact hr' r4.sub ((h2.mono x3.sh).mono s4) h4 q4 fun v H5 Hs5 z x5 h5 q5 => k v H5 Hs5 z ρ4 (((s1.trans s2).trans x3.sh).trans (s4.trans x5.sh)) (r4.ext x5) h5 q5
    | false =>
      rw [if_neg Bool.false_ne_true] at q3 ⊢
      exact k _ H3 Hs3 _ ρ2 ((s1.trans s2).trans x3.sh) (r2.ext x3) (.bl _) q3
  · exact q3.elim
theorem ev_chain {op op' : CmpOp} {c : Expr} {fc : FE} {r' : R2} {g' : D → D → (D → Prop) → Prop} (ho : OpR X (compareOp op) r) (hr : OpD X.K r g) (ho' : OpR X (compareOp op') r') (hr' : OpD X.K r' g') (ha : EV X a fa) (hb : EV X b fb) (hc : EV X c fc)
    (hm : lastMarks [op, op'] [b, c] = false := by with_unfolding_all rfl) : EV X (.Compare a [op, op'] [b, c] pos) (fCh g g' fa fb fc) :=
  weakE (pe_chain ho ho' ha hb hc hm) fun _ _ _ => chBody (c := c) hr hr'
theorem tv_chain {op op' : CmpOp} {c : Expr} {fc : FE} {r' : R2} {g' : D → D → (D → Prop) → Prop} (ho : OpR X (compareOp op) r) (hr : OpD X.K r g) (ho' : OpR X (compareOp op') r') (hr' : OpD X.K r' g') (ha : EV X a fa) (hb : EV X b fb) (hc : EV X c fc)
    (hm : lastMarks [op, op'] [b, c] = false := by with_unfolding_all rfl) : TV X (.Compare a [op, op'] [b, c] pos) (fBo (fCh g g' fa fb fc)) :=
  weakT (pt_chain ho ho' ha hb hc hm) fun σ H Q h => by
    obtain ⟨Hb, O, Hs, ρ, R, rl, hf, k⟩ := boBody h
    exact chBody (c := c) hr hr' ⟨Hb, O, Hs, ρ, R, rl, hf, k⟩
/-! ### and, or, not, if -/
variable {ta tb : FT} {rest : List Expr}
def fAnd (t u : FT) : FT := fun ρ R => t ρ fun c ρ1 => if c = true then u ρ1 R else R false ρ1
def fOr (t u : FT) : FT := fun ρ R => t ρ fun c ρ1 => if c = true then R true ρ1 else u ρ1 R
def fNot (t : FT) : FT := fun ρ R => t ρ fun c ρ1 => R (!c) ρ1
theorem wv_pt {e : Expr} {f : FT} (h : WV X e f) : TV X e f := PW.pt h
theorem wv_and1 (ha : TV X a ta) : WV X (.BoolOp .And [a] pos) ta := pw_and1 ha
theorem wv_or1 (ha : TV X a ta) : WV X (.BoolOp .Or [a] pos) ta := pw_or1 ha
theorem wv_and (ha : TV X a ta) (hb : WV X (.BoolOp .And (b :: rest) pos) tb) : WV X (.BoolOp .And (a :: b :: rest) pos) (fAnd ta tb) := by
  refine weakW (pw_and ha hb) fun σ H Q h => ?_
  obtain ⟨Hb, O, Hs, ρ, R, rl, hf, k⟩ := h
  refine ⟨Hb, O, Hs, ρ, _, rl, hf, fun c H1 Hs1 ρ1 s1 r1 q1 => ?_⟩
  cases c with
  | true =>
    rw [if_pos rfl] at q1 ⊢
    exact ⟨Hb, O, Hs1, ρ1, R, r1, q1, fun c H2 Hs2 ρ2 s2 r2 q2 => k c H2 Hs2 ρ2 (s1.trans s2) r2 q2⟩
  | false =>
    rw [if_neg Bool.false_ne_true] at q1 ⊢
    exact k _ H1 Hs1 ρ1 s1 r1 q1
theorem wv_or (ha : TV X a ta) (hb : WV X (.BoolOp .Or (b :: rest) pos) tb) : WV X (.BoolOp .Or (a :: b :: rest) pos) (fOr ta tb) := by
  refine weakW (pw_or ha hb) fun σ H Q h => ?_
  obtain ⟨Hb, O, Hs, ρ, R, rl, hf, k⟩ := h
  refine ⟨Hb, O, Hs, ρ, _, rl, hf, fun c H1 Hs1 ρ1 s1 r1 q1 => ?_⟩
  cases c with
  | false =>
    rw [if_neg Bool.false_ne_true] at q1 ⊢
    exact ⟨Hb, O, Hs1, ρ1, R, r1, q1, fun c H2 Hs2 ρ2 s2 r2 q2 => k c H2 Hs2 ρ2 (s1.trans s2) r2 q2⟩
  | true =>
    rw [if_pos rfl] at q1 ⊢
    exact k _ H1 Hs1 ρ1 s1 r1 q1
theorem tv_not (ha : TV X a ta) : TV X (.UnaryOp .Not a pos) (fNot ta) := by
  refine weakT (pt_not ha) fun σ H Q h => ?_
  obtain ⟨Hb, O, Hs, ρ, R, rl, hf, k⟩ := h
  exact ⟨Hb, O, Hs, ρ, _, rl, hf, fun c H1 Hs1 ρ1 s1 r1 q1 => k _ H1 Hs1 ρ1 s1 r1 q1⟩
/-- as values, the parts bools -/
def fAndV (fa fb : FE) : FE := fun ρ R => fa ρ fun d ρ1 => match d with
  | .bl c => if c = true then fb ρ1 R else R (.bl false) ρ1
  | _ => False
def fOrV (fa fb : FE) : FE := fun ρ R => fa ρ fun d ρ1 => match d with
  | .bl c => if c = true then R (.bl true) ρ1 else fb ρ1 R
  | _ => False
def fNotV (fa : FE) : FE := fun ρ R => fa ρ fun d ρ1 => match d with
  | .bl c => R (.bl (!c)) ρ1
  | _ => False
theorem ev_one {op} {f : FE} (h : EV X a f) : EV X (.BoolOp op [a] pos) f := pe_one h
theorem ev_and (ha : EV X a fa) (hb : EV X (.BoolOp .And (b :: rest) pos) fb) : EV X (.BoolOp .And (a :: b :: rest) pos) (fAndV fa fb) := by
  refine weakE (pe_and ha hb) fun σ H Q h => ?_
  obtain ⟨Hb, O, Hs, ρ, R, rl, hf, k⟩ := h
  refine ⟨Hb, O, Hs, ρ, _, rl, hf, fun x H1 Hs1 d ρ1 s1 r1 h1 q1 => ?_⟩
  split at q1
  · rename_i c
    cases h1
    refine ⟨c, rfl, ?_⟩
    cases c with
    | true =>
      rw [if_pos rfl] at q1 ⊢
      exact ⟨Hb, O, Hs1, ρ1, R, r1, q1, fun c H2 Hs2 d2 ρ2 s2 r2 q2 => k c H2 Hs2 d2 ρ2 (s1.trans s2) r2 q2⟩
    | false =>
      rw [if_neg Bool.false_ne_true] at q1 ⊢
      exact k _ H1 Hs1 _ ρ1 s1 r1 (.bl _) q1
  · exact q1.elim
theorem ev_or (ha : EV X a fa) (hb : EV X (.BoolOp .Or (b :: rest) pos) fb) : EV X (.BoolOp .Or (a :: b :: rest) pos) (fOrV fa fb) := by
  refine weakE (pe_or ha hb) fun σ H Q h => ?_
  obtain ⟨Hb, O, Hs, ρ, R, rl, hf, k⟩ := h
  refine ⟨Hb, O, Hs, ρ, _, rl, hf, fun x H1 Hs1 d ρ1 s1 r1 h1 q1 => ?_⟩
  split at q1
  · rename_i c
    cases h1
    refine ⟨c, rfl, ?_⟩
    cases c with
    | false =>
      rw [if_neg Bool.false_ne_true] at q1 ⊢
      exact ⟨Hb, O, Hs1, ρ1, R, r1, q1, fun c H2 Hs2 d2 ρ2 s2 r2 q2 => k c H2 Hs2 d2 ρ2 (s1.trans s2) r2 q2⟩
    | true =>
      rw [if_pos rfl] at q1 ⊢
      exact k _ H1 Hs1 _ ρ1 s1 r1 (.bl _) q1
  · exact q1.elim
theorem ev_not (ha : EV X a fa) : EV X (.UnaryOp .Not a pos) (fNotV fa) := by
  refine weakE (pe_not ha) fun σ H Q h => ?_
  obtain ⟨Hb, O, Hs, ρ, R, rl, hf, k⟩ := h
  refine ⟨Hb, O, Hs, ρ, _, rl, hf, fun x H1 Hs1 d ρ1 s1 r1 h1 q1 => ?_⟩
  split at q1
  · cases h1
    exact ⟨_, rfl, k _ H1 Hs1 _ ρ1 s1 r1 (.bl _) q1⟩
  · exact q1.elim
def fIf (t : FT) (fa fb : FE) : FE := fun ρ R => t ρ fun c ρ1 => if c = true then fa ρ1 R else fb ρ1 R
theorem ev_if {c : Expr} {tc : FT} (hc : TV X c tc) (ha : EV X a fa) (hb : EV X b fb) : EV X (.IfExp c a b pos) (fIf tc fa fb) := by
  refine weakE (pe_ifExp hc ha hb) fun σ H Q h => ?_
  obtain ⟨Hb, O, Hs, ρ, R, rl, hf, k⟩ := h
  refine ⟨Hb, O, Hs, ρ, _, rl, hf, fun c H1 Hs1 ρ1 s1 r1 q1 => ?_⟩
  cases c with
  | true =>
    rw [if_pos rfl] at q1 ⊢
    exact ⟨Hb, O, Hs1, ρ1, R, r1, q1, fun c H2 Hs2 d2 ρ2 s2 r2 q2 => k c H2 Hs2 d2 ρ2 (s1.trans s2) r2 q2⟩
  | false =>
    rw [if_neg Bool.false_ne_true] at q1 ⊢
    exact ⟨Hb, O, Hs1, ρ1, R, r1, q1, fun c H2 Hs2 d2 ρ2 s2 r2 q2 => k c H2 Hs2 d2 ρ2 (s1.trans s2) r2 q2⟩
end

/-! ### arguments, displays -/
section
variable {X : Cx} {pos : Pos} {e : Expr} {es : List Expr} {fe : FE} {fs : FA}
def fNil : FA := fun ρ R => R [] ρ
def fCons (fe : FE) (fs : FA) : FA := fun ρ R => fe ρ fun d ρ1 => fs ρ1 fun ds ρ2 => R (d :: ds) ρ2
theorem av_nil : AV X [] fNil := by
  refine weakA pa_nil fun σ H Q h => ?_
  obtain ⟨Hb, O, Hs, ρ, R, rl, hf, k⟩ := h
  exact k [] H Hs [] ρ (Same.refl _) rl .nil hf
theorem av_cons (he : EV X e fe) (ht : AV X es fs) (hs : starEach (e :: es) X.env = (false, eval e X.env) :: starEach es X.env := by rfl) : AV X (e :: es) (fCons fe fs) := by
  refine weakA (pa_cons he ht hs) fun σ H Q h => ?_
  obtain ⟨Hb, O, Hs, ρ, R, rl, hf, k⟩ := h
  refine ⟨Hb, O, Hs, ρ, _, rl, hf, fun v H1 Hs1 d ρ1 s1 r1 h1 q1 => ⟨Hb, O, Hs1, ρ1, _, r1, q1, fun vs H2 Hs2 ds ρ2 s2 r2 h2 q2 => ?_⟩⟩
  exact k _ H2 Hs2 _ ρ2 (s1.trans s2) r2 (.cons (h1.mono s2) h2) q2
theorem small_line {n : Nat} (h : n ≤ 1000000) : n ≤ sizeLine := Nat.le_trans h (by decide)
theorem small_line' {n : Nat} (h : n ≤ 1000000) : n < sizeLine := Nat.lt_of_le_of_lt h (by decide)
/-- (a, b, ..): shared -/
def fTup (fs : FA) : FE := fun ρ R => fs ρ fun ds ρ1 => match Nat.ble ds.length 1000 with
  | true => R (.tup ds) ρ1
  | false => False
theorem ev_tup {x1} (h : AV X es fs) : EV X (.Tuple es x1 pos) (fTup fs) := by
  refine weakE (pe_tup h) fun σ H Q hh => ?_
  obtain ⟨Hb, O, Hs, ρ, R, rl, hf, k⟩ := hh
  refine ⟨Hb, O, Hs, ρ, _, rl, hf, fun vs H1 Hs1 ds ρ1 s1 r1 h1 q1 => ?_⟩
  split at q1
  · rename_i hl
    refine ⟨small_line (by rw [h1.length]; have := Nat.le_of_ble_eq_true hl; omega), fun p hp => ?_⟩
    have x := Ext.new (o := .tup vs) r1.sub hp
    exact k _ _ _ _ ρ1 (s1.trans x.sh) (r1.ext x) (.tup (.inl (.inl upd_same)) (h1.mono x.sh)) q1
  · exact q1.elim
/-- [a, b, ..]: new -/
def fLst (fs : FA) : FA := fun ρ R => fs ρ fun ds ρ1 => match Nat.ble ds.length 1000 with
  | true => R ds ρ1
  | false => False
theorem lv_lst (h : AV X es fs) : LV X (.List es pos) (fLst fs) := by
  refine weakE (pe_lst h) fun σ H Q hh => ?_
  obtain ⟨Hb, O, Hs, ρ, R, rl, hf, k⟩ := hh
  refine ⟨Hb, O, Hs, ρ, _, rl, hf, fun vs H1 Hs1 ds ρ1 s1 r1 h1 q1 => ?_⟩
  split at q1
  · rename_i hl
    refine ⟨small_line (by rw [h1.length]; have := Nat.le_of_ble_eq_true hl; omega), fun p hp => ?_⟩
    obtain ⟨r2, hO⟩ := r1.lay (o := .lst vs) hp
    exact k p vs _ _ ds ρ1 s1 r2 hO h1 q1
  · exact q1.elim
/-- a new list is shared -/
def fL (f : FA) : FE := fun ρ R => f ρ fun ds ρ1 => R (.lst ds) ρ1
theorem lv_ev {f : FA} (h : LV X e f) : EV X e (fL f) := by
  refine weakE h fun σ H Q hh => ?_
  obtain ⟨Hb, O, Hs, ρ, R, rl, hf, k⟩ := hh
  refine ⟨Hb, O, Hs, ρ, _, rl, hf, fun p xs H1 Hs1 ds ρ1 s1 r1 hO h1 q1 => ?_⟩
  obtain ⟨r2, sm⟩ := r1.share hO
  exact k _ _ _ _ ρ1 (s1.trans sm) r2 (.lst upd_same (h1.mono sm)) q1
end
end PD

namespace PD
open PySem PySem.Spec L2
open PyProof.Rows (envOfC)

/-! ### a def's promise, no repr under way around it -/
structure Rm (k : Nat) (A : Around) : Prop where
  room : Room k A
  none : A.guards = some []
theorem Rm.mono {j k : Nat} {A : Around} (r : Rm k A) (h : j ≤ k) : Rm j A := ⟨r.room.mono h, r.none⟩
structure FnG (P : Program) (w : World) (K : PySem.W.Frag) (mg : Str → Option Value) (base : Heap) (CX : CXT) (k : Nat) (f : Addr) (fd : FuncData) (ps : List Str) (sp : Sp) : Prop where
  len : ∀ vs H Q E, sp vs H Q E → vs.length = ps.length
  run : ∀ (A : Around) (outer : List Env) (s : Shared) (H : Hp) (args : Args) (us : List Value) (vs : List V) (Q : VK) (E : XK), Rm k A → Env0 P w K mg base A outer s H →
    BindsTo s fd args (ps.zip us) → Vals vs us → sp vs H Q E → codeAny (model P w) A (.call (.ref f) args) (CR CX outer P w H s Q E) s
/-- a global def by its name -/
def Has (P : Program) (w : World) (K : PySem.W.Frag) (mg : Str → Option Value) (base : Heap) (CX : CXT) (x : Str) (k : Nat) (sp : Sp) : Prop :=
  ∃ f fd ps, mg x = some (.ref f) ∧ PySem.W.keepIn K (.ref f) = true ∧ Binds K fd ps [] ∧ FnG P w K mg base CX k f fd ps sp
/-- a def as it stands behind the top, by its name -/
def Def (K : PySem.W.Frag) (mg : Str → Option Value) (x : Str) (st : Stmt) (ps : List Str) : Prop :=
  ∃ f fd, mg x = some (.ref f) ∧ Fun K x x st f fd ∧ Binds K fd ps []
section
variable {P : Program} {w : World} {K : PySem.W.Frag} {mg : Str → Option Value} {base : Heap} {CX : CXT}
theorem fnG_of {k : Nat} {f : Addr} {name qual : Str} {params : Arguments} {body : List Stmt} {scope : Scope} {dV kV doc pm cdv ct oc : Value} {an od : Option Addr} {osl : Array (Option Value)} {N ps : List Str} {sp : Sp}
    (lk : K.lookup f = some ⟨oc, od, .func (PySem.W.fnOf name qual params body scope dV kV doc pm an cdv ct), osl⟩) (hcd : PySem.W.codeIn K cdv qual = true) (S : FnScope N ps scope) (len : ∀ vs H Q E, sp vs H Q E → vs.length = ps.length)
    (hb : ∀ (A : Around) (outer : List Env) (s : Shared) (H : Hp) (vs : List V) (Q : VK) (E : XK), Rm k (A.deeper (envOfC qual scope s.heap.objs.size f cdv)) → sp vs H Q E →
      ∃ t, PSs (cxOf CX P w K mg base N qual scope f cdv A outer s H E) body t ∧ t { nx := fun _ H' => Q .non H', rt := Q } (start N vs) H) :
    FnG P w K mg base CX (k + 1) f (PySem.W.fnOf name qual params body scope dV kV doc pm an cdv ct) ps sp where
  len := len
  run := by
    intro A outer s H args us vs Q E hr e0 hbind r hsp
    have hlen := len _ _ _ _ hsp
    have KX : K.In s.heap := e0.mod.kin.keeps fun b o z => (e0.bs b o z).1
    have lim : s.heap.NoLimit := e0.mod.nolimit.keeps fun b o z => (e0.bs b o z).1
    have hkind : ∀ y ∈ ps.zip us, scope.names.lookup y.1 = some .local ∨ (scope.names.lookup y.1 = some .cell ∧ ((cellsFrom (s.heap.objs.size + 1) scope.names []).lookup y.1).isSome = true) := by
      rintro ⟨n, v⟩ hy
      refine (S.par n (List.of_mem_zip hy).1).imp id fun q => ?_
      exact ⟨q, PySem.W.cellsFrom_some _ _ _ (.inl q)⟩
    refine codeAny_call_function hr.room.depth (KX _ _ lk) rfl S.co S.gen rfl (PySem.W.codeRec_of KX hcd) ?_
    refine hbind _ _ _ _ (wpAny_newFunctionEnv_cells S.kind hkind fun env he s1 x => ?_)
    subst he
    refine ⟨lim.keeps x.toInCall.keep, codeAny_func ?_⟩
    obtain ⟨t, ht, hq⟩ := hb A outer s H vs Q E ⟨hr.room.deeper _, hr.none⟩ hsp
    have I := inv_start (CX := CX) (P := P) (w := w) (E := E) (mg := mg) (base := base) S hr.room.hd e0 hlen r x
    refine wpAny_mono (ht.run [] s1 (start N vs) H _ I hq) ?_ fun _ _ z => z
    intro fl s' hs
    cases fl with
    | ret u => exact let ⟨v, _, H', J, rv, q⟩ := hs; ⟨v, H', J.os, J.bare, J.base, J.hok, rv, q⟩
    | next => exact let ⟨_, H', J, q⟩ := hs; ⟨V.non, H', J.os, J.bare, J.base, J.hok, rfl, q⟩
    | brk => exact hs.elim fun _ ⟨_, _, z⟩ => z.elim
    | cont => exact hs.elim fun _ ⟨_, _, z⟩ => z.elim
/-- a def with this body keeps this promise -/
theorem Def.has {x : Str} {st : Stmt} {N ps : List Str} {k : Nat} {sp : Sp} (d : Def K mg x st ps) (S : FnScope N ps (defScope st)) (len : ∀ vs H Q E, sp vs H Q E → vs.length = ps.length)
    (hb : ∀ (f : Addr) (cdv : Value) (A : Around) (outer : List Env) (s : Shared) (H : Hp) (vs : List V) (Q : VK) (E : XK), Rm k (A.deeper (envOfC x (defScope st) s.heap.objs.size f cdv)) → sp vs H Q E →
      ∃ t, PSs (cxOf CX P w K mg base N x (defScope st) f cdv A outer s H E) (defBody st) t ∧ t { nx := fun _ H' => Q .non H', rt := Q } (start N vs) H) : Has P w K mg base CX x (k + 1) sp := by
  obtain ⟨f, fd, hm, F, b⟩ := d
  obtain ⟨oc, od, kV, doc, pm, an, cdv, ct, osl, rfl, lk, hcd⟩ := F.ex
  exact ⟨f, _, ps, hm, F.kp, b, fnG_of lk hcd S len fun A outer s H vs Q E hr h => hb f cdv A outer s H vs Q E hr h⟩
theorem Has.mono {x : Str} {j k : Nat} {sp : Sp} (h : Has P w K mg base CX x j sp) (hk : j ≤ k) : Has P w K mg base CX x k sp := by
  obtain ⟨f, fd, ps, hm, hp, b, F⟩ := h
  exact ⟨f, fd, ps, hm, hp, b, F.len, fun A outer s H args us vs Q E hr => F.run A outer s H args us vs Q E (hr.mono hk)⟩
theorem Has.imp {x : Str} {k : Nat} {sp sp' : Sp} (h : Has P w K mg base CX x k sp) (i : ∀ vs H Q E, sp' vs H Q E → sp vs H Q E) : Has P w K mg base CX x k sp' := by
  obtain ⟨f, fd, ps, hm, hp, b, F⟩ := h
  exact ⟨f, fd, ps, hm, hp, b, fun vs H Q E q => F.len _ _ _ _ (i _ _ _ _ q), fun A outer s H args us vs Q E hr e0 hb r q => F.run A outer s H args us vs Q E hr e0 hb r (i _ _ _ _ q)⟩
end

/-! ### promises over data -/
abbrev Ct := List D → (D → Prop) → Prop
abbrev CtM := List D → List D → (D → List D → Prop) → Prop
def spC (K : PySem.W.Frag) (c : Ct) : Sp := fun vs H Q _ => ∃ Hs ds R, Same Hs H ∧ DdAll K Hs vs ds ∧ c ds R ∧ ∀ v H' Hs' d, Ext Hs H Hs' H' → Dd K Hs' v d → R d → Q v H'
/-- what a call leaves that may change the list at a -/
structure ExtM (a : Addr) (Hs H Hs' H' : Hp) : Prop where
  sh : Same Hs Hs'
  sub : Same Hs' H'
  own : Hs' a = none
  out : ∀ b o, b ≠ a → Hs b = none → H b = some o → Hs' b = none ∧ H' b = some o
def spM (K : PySem.W.Frag) (c : CtM) : Sp := fun vs H Q _ => ∃ Hs a xs hs vs' ds R, vs = .ref a :: vs' ∧ Same Hs H ∧ Hs a = none ∧ H a = some (.lst xs) ∧ DdAll K Hs xs hs ∧ DdAll K Hs vs' ds ∧
  c hs ds R ∧ ∀ v H' Hs' xs' d hs', ExtM a Hs H Hs' H' → H' a = some (.lst xs') → DdAll K Hs' xs' hs' → Dd K Hs' v d → R d hs' → Q v H'
def fCall (c : Ct) (fa : FA) : FE := fun ρ R => fa ρ fun ds ρ1 => c ds fun d => R d ρ1
/-- f(name, ..), the name's own list handed in to be changed -/
def fCallM (c : CtM) (i : Nat) (fa : FA) : FE := fun ρ R => match olAt ρ[i]? with
  | some _ => fa ρ fun ds ρ1 => match olAt ρ1[i]? with
    | some hs => c hs ds fun d hs' => R d (putL ρ1 i hs')
    | none => False
  | none => False
section
variable {X : Cx} {CX : CXT} {x : Str} {k : Nat} {sp : Sp} {p pos : Pos} {e : Expr} {es : List Expr} {t : TA}
theorem call_run {f : Addr} {fd : FuncData} {ps : List Str} {E : XK} {pins : List (Addr × Obj)} {σ : L2.St} {H : Hp} {s : Shared} {Q : VK} {us : List Value} {vs : List V} (F : FnG X.prog X.w X.K X.mg X.base CX k f fd ps sp) (hb : Binds X.K fd ps []) (hr : Rm k X.A)
    (hx : Passes CX X E) (I : Inv X pins σ H s) (r : Vals vs us) (h : sp vs H Q E) : wpAny (model X.prog X.w) X.A (call (.ref f) us) (EP X pins σ Q) X.xe s := by
  have hl : us.length = ps.length := by rw [← r.length]; exact F.len _ _ _ _ h
  have bs := hb s us I.kIn (by rw [List.append_nil]; exact hl)
  rw [List.append_nil] at bs
  refine wpAny_call (codeAny_mono (F.run X.A X.stack s H ⟨us, []⟩ us vs Q E hr I.env0 bs r h) ?_)
  intro r s' hq
  match r, hq with
  | .error e, hq => exact hx pins σ H s e s' I hq
  | .ok (.ret u), hq => exact I.after hq
theorem pe_callG {E : XK} (C : Has X.prog X.w X.K X.mg X.base CX x k sp) (hr : Rm k X.A) (hx : Passes CX X E) (ha : PA X (e :: es) t) (hg : Gl X x := by rfl) (hdb : (x == ("__debug__" : Str)) = false := by decide)
    (he : starEach (e :: es) X.env = (false, eval e X.env) :: starEach es X.env := by rfl) (hpl : (backTo pos (starEach es X.env)).any (·.1) = false := by rfl) :
    PE X (.Call (.Name x p) (e :: es) [] pos) (fun σ H Q => t σ H fun vs H1 => sp vs H1 Q E) := by
  obtain ⟨f, fd, ps, hm, hk, hb, F⟩ := C
  constructor
  intro pins s σ H Q I h
  refine wpAny_Call_Name_kw (ld_glob I hg hm ?_ hdb)
  exact PySem.W.callWith_K (h₀ := X.base) I.ok.mod.kin hk (thn (ha.run pos pins s σ H _ I h) fun us s1 ⟨vs, H1, I1, r, q⟩ => ⟨I1.kIn, call_run F hb hr hx I1 r q⟩) he hpl
theorem pass00 {X : Cx} {E : XK} : Passes L2.CX0 X E := fun _ _ _ _ _ _ _ h => h.elim
theorem ev_call {c : Ct} {fa : FA} (C : Has X.prog X.w X.K X.mg X.base L2.CX0 x k (spC X.K c)) (hr : Rm k X.A) (ha : AV X (e :: es) fa) (hg : Gl X x := by rfl) (hdb : (x == ("__debug__" : Str)) = false := by decide)
    (he : starEach (e :: es) X.env = (false, eval e X.env) :: starEach es X.env := by rfl) (hpl : (backTo pos (starEach es X.env)).any (·.1) = false := by rfl) : EV X (.Call (.Name x p) (e :: es) [] pos) (fCall c fa) := by
  refine weakE (pe_callG (E := E0) C hr pass00 ha hg hdb he hpl) fun σ H Q h => ?_
  obtain ⟨Hb, O, Hs, ρ, R, rl, hf, kk⟩ := h
  exact ⟨Hb, O, Hs, ρ, _, rl, hf, fun vs H1 Hs1 ds ρ1 s1 r1 h1 q1 => ⟨Hs1, ds, _, r1.sub, h1, q1, fun v H2 Hs2 d x2 h2 q2 => kk v H2 Hs2 d ρ1 (s1.trans x2.sh) (r1.ext x2) h2 q2⟩⟩

theorem Rel.extM {K : PySem.W.Frag} {Hb O Hs H Hs' H' : Hp} {σ : L2.St} {ρ : Cs} {i : Nat} {a : Addr} {c c' : Cell} (r : Rel K Hb O Hs H σ ρ) (e : ρ[i]? = some c) (ho : c.owns = true) (s : σ[i]? = some (some (.ref a))) (m : ExtM a Hs H Hs' H')
    (hc : CellOk K Hs' H' (some (some (.ref a))) c') : Rel K Hb O Hs' H' σ (ρ.set i c') := by
  obtain ⟨a', u, s', n0, h⟩ := (r.ok i c e).addr ho
  rw [s] at s'
  cases s'
  have hO := r.ow i c a e ho s
  have hi : i < ρ.length := (List.getElem?_eq_some_iff.mp e).1
  have na : ∀ (j : Nat) (f : Cell) (b : Addr), j ≠ i → ρ[j]? = some f → f.owns = true → σ[j]? = some (some (.ref b)) → b ≠ a := fun j f b hj k hf t z => by
    subst z
    exact r.apart i j c f b (Ne.symm hj) e k ho hf s t
  refine ⟨r.base.trans m.sh, m.sub, fun b o z => ?_, by rw [List.length_set]; exact r.len, fun j f k => ?_, fun j f b k hf t => ?_, fun j l f g b n k1 k2 o1 o2 t => ?_⟩
  · obtain ⟨x, y⟩ := r.out b o z
    exact m.out b o (fun q => by subst q; rw [hO] at z; cases z) x y
  · rcases getElem?_set' k with ⟨rfl, rfl⟩ | ⟨n, k⟩
    · rw [s]; exact hc
    · exact (r.ok j f k).stay m.sh fun b o hf t x y => m.out b o (na j f b n k hf t) x y
  · rcases getElem?_set' k with ⟨rfl, rfl⟩ | ⟨n, k⟩
    · rw [s] at t; cases t; exact hO
    · exact r.ow j f b k hf t
  · rcases getElem?_set' k1 with ⟨rfl, rfl⟩ | ⟨n1, m1⟩
    · rcases getElem?_set' k2 with ⟨rfl, rfl⟩ | ⟨n2, m2⟩
      · exact absurd rfl n
      · rw [s] at t; cases t
        intro z
        exact na l g a n2 m2 o2 z rfl
    · rcases getElem?_set' k2 with ⟨rfl, rfl⟩ | ⟨n2, m2⟩
      · rw [s]
        intro z
        cases z
        exact na j f a n1 m1 o1 t rfl
      · exact r.apart j l f g b n m1 m2 o1 o2 t
theorem ev_callM {c : CtM} {fa : FA} {i : Nat} {y : Str} {py : Pos} (C : Has X.prog X.w X.K X.mg X.base L2.CX0 x k (spM X.K c)) (hr : Rm k X.A) (hN : X.N[i]? = some y) (hv : Vis X.env.scope y) (ha : AV X es fa) (hg : Gl X x := by rfl) (hdb : (x == ("__debug__" : Str)) = false := by decide)
    (hd : (y == ("__debug__" : Str)) = false := by decide) (hcd : (y == ("__classdict__" : Str)) = false := by decide)
    (he : starEach (.Name y py :: es) X.env = (false, eval (.Name y py) X.env) :: starEach es X.env := by rfl) (hpl : (backTo pos (starEach es X.env)).any (·.1) = false := by rfl) : EV X (.Call (.Name x p) (.Name y py :: es) [] pos) (fCallM c i fa) := by
  refine weakE (pe_callG (E := E0) C hr pass00 (pa_cons (pe_var hN hv hd hcd) ha he) hg hdb he hpl) fun σ H Q h => ?_
  obtain ⟨Hb, O, Hs, ρ, R, rl, hf, kk⟩ := h
  unfold fCallM at hf
  split at hf
  · rename_i ds0 e0
    obtain ⟨c0, e0, o0, _⟩ := olAt_some e0
    obtain ⟨a, _, es, _, _, _, _⟩ := (rl.ok i _ e0).ol o0
    refine ⟨.ref a, es, Hb, O, Hs, ρ, _, rl, hf, fun vs H1 Hs1 ds ρ1 s1 r1 h1 q1 => ?_⟩
    split at q1
    · rename_i hs e1
      obtain ⟨c1, e1, o1, w1⟩ := olAt_some e1
      obtain ⟨a', xs, es', n1, ha1, hd1, up⟩ := (r1.ok i _ e1).ol o1
      rw [es] at es'
      cases es'
      refine ⟨Hs1, a, xs, hs, vs, ds, _, rfl, r1.sub, n1, ha1, hd1, h1, q1, fun v H2 Hs2 xs' d hs' m hx hd2 hv q2 => ?_⟩
      unfold putL at q2
      rw [e1] at q2
      exact kk v H2 Hs2 d _ (s1.trans m.sh) (r1.extM (c' := c1.upd hs') e1 w1 es m (es ▸ up Hs2 H2 _ _ m.own hx hd2)) hv q2
    · exact q1.elim
  · exact hf.elim
end
/-! ### a def's body -/
def startC (N : List Str) (cs : List Cell) : Cs := cs ++ List.replicate (N.length - cs.length) .un
def endsOf (R : D → Prop) : EndsD := { nx := fun _ => R .non, rt := fun d _ => R d }
section
variable {P : Program} {w : World} {K : PySem.W.Frag} {mg : Str → Option Value} {base : Heap} {x : Str} {st : Stmt} {N ps : List Str} {k : Nat}
theorem rel_start {Hs H : Hp} {vs : List V} {ds : List D} (s : Same Hs H) (h : DdAll K Hs vs ds) (hN : vs.length ≤ N.length) : Rel K Hs (fun a => if Hs a = none then H a else none) Hs H (start N vs) (startC N (ds.map .sh)) where
  base := Same.refl _
  sub := s
  out := fun a o e => by
    by_cases n : Hs a = none
    · rw [if_pos n] at e; exact ⟨n, e⟩
    · rw [if_neg n] at e; cases e
  len := by
    have := h.length
    unfold L2.start startC
    rw [List.length_append, List.length_append, List.length_map, List.length_map, List.length_replicate, List.length_replicate]
    omega
  ok := fun i c e => by
    unfold startC at e
    by_cases hi : i < ds.length
    · rw [List.getElem?_append_left (by simpa using hi), List.getElem?_map] at e
      cases q : ds[i]? with
      | none => rw [q] at e; cases e
      | some d =>
        rw [q] at e
        cases e
        obtain ⟨v, hv, hd⟩ := h.get i q
        refine ⟨v, ?_, hd⟩
        have hl := h.length
        unfold L2.start
        rw [List.getElem?_append_left (by rw [List.length_map]; omega), List.getElem?_map, hv]
        rfl
    · rw [List.getElem?_append_right (by simpa using hi), List.getElem?_replicate] at e
      split at e
      · cases e; trivial
      · cases e
  ow := fun i c a e o _ => by
    exfalso
    unfold startC at e
    by_cases hi : i < ds.length
    · rw [List.getElem?_append_left (by simpa using hi), List.getElem?_map] at e
      cases q : ds[i]? with
      | none => rw [q] at e; cases e
      | some d => rw [q] at e; cases e; cases o
    · rw [List.getElem?_append_right (by simpa using hi), List.getElem?_replicate] at e
      split at e
      · cases e; cases o
      · cases e
  apart := fun i j c f a _ e _ o _ _ => by
    exfalso
    unfold startC at e
    by_cases hi : i < ds.length
    · rw [List.getElem?_append_left (by simpa using hi), List.getElem?_map] at e
      cases q : ds[i]? with
      | none => rw [q] at e; cases e
      | some d => rw [q] at e; cases e; cases o
    · rw [List.getElem?_append_right (by simpa using hi), List.getElem?_replicate] at e
      split at e
      · cases e; cases o
      · cases e
/-- what leaves a def of data -/
theorem link_end {Hs H : Hp} {R : D → Prop} {Q : VK} (k : ∀ v H' Hs' d, Ext Hs H Hs' H' → Dd K Hs' v d → R d → Q v H') : Link K Hs (fun a => if Hs a = none then H a else none) (endsOf R) { nx := fun _ H' => Q .non H', rt := Q } := by
  have ex : ∀ {σ' : L2.St} {H' Hs' : Hp} {ρ' : Cs}, Rel K Hs (fun a => if Hs a = none then H a else none) Hs' H' σ' ρ' → Ext Hs H Hs' H' := fun r => ⟨r.base, r.sub, fun a o n e => r.out a o (by show (if Hs a = none then H a else none) = some o; rw [if_pos n]; exact e)⟩
  exact ⟨fun σ' H' Hs' ρ' r q => k _ H' Hs' _ (ex r) .non q, fun v σ' H' Hs' ρ' d r hd q => k v H' Hs' d (ex r) hd q, fun _ _ _ _ _ z => z.elim, fun _ _ _ _ _ z => z.elim⟩
/-- a def whose body is read over data -/
theorem Def.hasC {c : Ct} (d : Def K mg x st ps) (S : FnScope N ps (defScope st)) (len : ∀ ds R, c ds R → ds.length = ps.length)
    (hb : ∀ (f : Addr) (cdv : Value) (A : Around) (outer : List Env) (s : Shared) (H : Hp) (E : XK), Rm k (A.deeper (envOfC x (defScope st) s.heap.objs.size f cdv)) →
      ∃ t, BV (cxOf L2.CX0 P w K mg base N x (defScope st) f cdv A outer s H E).nox (defBody st) t ∧ ∀ ds R, c ds R → t (endsOf R) (startC N (ds.map .sh))) : Has P w K mg base L2.CX0 x (k + 1) (spC K c) := by
  refine d.has S (fun vs H Q E ⟨Hs, ds, R, _, h1, h2, _⟩ => h1.length.trans (len ds R h2)) fun f cdv A outer s H vs Q E hr h => ?_
  obtain ⟨t, ht, hc⟩ := hb f cdv A outer s H E hr
  obtain ⟨Hs, ds, R, s1, h1, h2, kk⟩ := h
  refine ⟨_, PSs.nox ht, Hs, _, Hs, _, _, rel_start s1 h1 ?_, hc ds R h2, link_end kk⟩
  have l1 := h1.length.trans (len ds R h2)
  have := congrArg List.length S.pre
  rw [List.length_take] at this
  omega
end
end PD

namespace PD
open PySem PySem.Spec L2

/-! ### ints -/
def gI (C : Int → Int → Prop) (h : Int → Int → D) : D → D → (D → Prop) → Prop := fun d e P => match d, e with
  | .int i, .int j => C i j ∧ P (h i j)
  | _, _ => False
def gI0 (h : Int → Int → D) : D → D → (D → Prop) → Prop := fun d e P => match d, e with
  | .int i, .int j => P (h i j)
  | _, _ => False
section
variable {K : PySem.W.Frag}
theorem opd_I {C : Int → Int → Prop} {g : Int → Int → V} {h : Int → Int → D} (hg : ∀ i j H, Dd K H (g i j) (h i j)) : OpD K (rI C g) (gI C h) := by
  intro Hs H x y d e Q P s hx hy q k
  unfold gI at q
  split at q
  · cases hx
    cases hy
    exact ⟨_, _, rfl, rfl, q.1, k _ H Hs _ (Ext.refl s) (hg _ _ _) q.2⟩
  · exact q.elim
theorem opd_I0 {g : Int → Int → V} {h : Int → Int → D} (hg : ∀ i j H, Dd K H (g i j) (h i j)) : OpD K (rI0 g) (gI0 h) := by
  intro Hs H x y d e Q P s hx hy q k
  unfold gI0 at q
  split at q
  · cases hx
    cases hy
    exact ⟨_, _, rfl, rfl, k _ H Hs _ (Ext.refl s) (hg _ _ _) q⟩
  · exact q.elim
theorem opd_or {r r' : R2} {g : D → D → (D → Prop) → Prop} {g' : D → D → (D → Prop) → Prop} (h : OpD K r g) (h' : OpD K r' g') : OpD K (fun x y H Q => r x y H Q ∨ r' x y H Q) (fun d e P => g d e P ∨ g' d e P) := by
  intro Hs H x y d e Q P s hx hy q k
  rcases q with q | q
  · exact .inl (h s hx hy q k)
  · exact .inr (h' s hx hy q k)
end
def MulOk (i j : Int) : Prop := CMul i j ∨ CMulW i j
theorem MulOk.l {i j : Int} (h : -(2 ^ 64) < i) (h' : i < 2 ^ 64) : MulOk i j := .inl (.inl ⟨h, h'⟩)
theorem MulOk.r {i j : Int} (h : -(2 ^ 64) < j) (h' : j < 2 ^ 64) : MulOk i j := .inl (.inr ⟨h, h'⟩)
theorem MulOk.w {i j : Int} {a b : Nat} (ha : i.natAbs < 2 ^ a) (hb : j.natAbs < 2 ^ b) (h0 : 0 < a) (h1 : 0 < b) (h : a + b ≤ 1000000) : MulOk i j := .inr (wide_mul ha hb h0 h1 h)
theorem DivOk.of {j : Int} (h : 0 < j) (h' : j < 2 ^ 64) (i : Int) : CDivW i j := wide_div (b := 64) h (by omega) (by decide) (by decide)
section
variable {X : Cx} {pos : Pos} {a b : Expr} {fa fb : FE}
def gAdd := gI0 fun i j => .int (i + j)
def gSub := gI0 fun i j => .int (i - j)
def gMul := gI MulOk fun i j => .int (i * j)
def gDiv := gI CDivW fun i j => .int (i / j)
def gMod := gI (fun _ j => 0 < j) fun i j => .int (i % j)
def gModN := gI (fun _ j => j ≠ 0) fun i j => .int (i.fmod j)
def gPow := gI CPow fun i j => .int (i ^ j.toNat)
theorem ev_add (ha : EV X a fa) (hb : EV X b fb) : EV X (.BinOp a .Add b pos) (fOp gAdd fa fb) := ev_op op_add (opd_I0 fun _ _ _ => .int _) ha hb
theorem ev_sub (ha : EV X a fa) (hb : EV X b fb) : EV X (.BinOp a .Sub b pos) (fOp gSub fa fb) := ev_op op_sub (opd_I0 fun _ _ _ => .int _) ha hb
theorem op_mulA : OpR X (binaryOp .Mult) (rI MulOk fun i j => .int (i * j)) := by
  intro pins s σ H x y v u Q I rx ry h
  obtain ⟨i, j, rfl, rfl, hc, q⟩ := h
  rcases hc with hc | hc
  · exact op_mul pins s σ H _ _ v u Q I rx ry ⟨i, j, rfl, rfl, hc, q⟩
  · exact op_mulW pins s σ H _ _ v u Q I rx ry ⟨i, j, rfl, rfl, hc, q⟩
theorem ev_mul (ha : EV X a fa) (hb : EV X b fb) : EV X (.BinOp a .Mult b pos) (fOp gMul fa fb) := ev_op op_mulA (opd_I fun _ _ _ => .int _) ha hb
theorem ev_div (ha : EV X a fa) (hb : EV X b fb) : EV X (.BinOp a .FloorDiv b pos) (fOp gDiv fa fb) := ev_op op_fdivW (opd_I fun _ _ _ => .int _) ha hb
theorem ev_mod (ha : EV X a fa) (hb : EV X b fb) : EV X (.BinOp a .Mod b pos) (fOp gMod fa fb) := ev_op op_mod (opd_I fun _ _ _ => .int _) ha hb
theorem ev_modN (ha : EV X a fa) (hb : EV X b fb) : EV X (.BinOp a .Mod b pos) (fOp gModN fa fb) := ev_op op_modN (opd_I fun _ _ _ => .int _) ha hb
theorem ev_pow (ha : EV X a fa) (hb : EV X b fb) : EV X (.BinOp a .Pow b pos) (fOp gPow fa fb) := ev_op op_pow (opd_I fun _ _ _ => .int _) ha hb
def gNeg : D → (D → Prop) → Prop := fun d P => match d with
  | .int i => P (.int (-i))
  | _ => False
theorem ev_neg (ha : EV X a fa) : EV X (.UnaryOp .USub a pos) (fUn gNeg fa) := ev_un un_neg (by
  intro Hs H x d Q P s hx q k
  unfold gNeg at q
  split at q
  · cases hx
    exact ⟨_, rfl, k _ H Hs _ (Ext.refl s) (.int _) q⟩
  · exact q.elim) ha
/-! ### comparisons -/
def gLt := gI0 fun i j => .bl (decide (i < j))
def gLe := gI0 fun i j => .bl (decide (i ≤ j))
def gGt := gI0 fun i j => .bl (decide (j < i))
def gGe := gI0 fun i j => .bl (decide (j ≤ i))
theorem od_lt : OpD X.K (rI0 fun i j => .bl (decide (i < j))) gLt := opd_I0 fun _ _ _ => .bl _
theorem od_le : OpD X.K (rI0 fun i j => .bl (decide (i ≤ j))) gLe := opd_I0 fun _ _ _ => .bl _
theorem od_gt : OpD X.K (rI0 fun i j => .bl (decide (j < i))) gGt := opd_I0 fun _ _ _ => .bl _
theorem od_ge : OpD X.K (rI0 fun i j => .bl (decide (j ≤ i))) gGe := opd_I0 fun _ _ _ => .bl _
/-- == of scalars -/
def eqS : D → D → Option Bool
  | .int i, .int j => some (decide (i = j))
  | .str i, .str j => some (decide (i = j))
  | .bl i, .bl j => some (decide (i = j))
  | .non, .non => some true
  | .non, .int _ | .int _, .non | .non, .bl _ | .bl _, .non | .non, .str _ | .str _, .non => some false
  | .int _, .str _ | .str _, .int _ | .bl _, .str _ | .str _, .bl _ => some false
  | _, _ => none
theorem eqS_ok {K : PySem.W.Frag} {H : Hp} {x y : V} {d e : D} {t : Bool} (hx : Dd K H x d) (hy : Dd K H y e) (h : eqS d e = some t) : scal x y = true ∧ decide (x = y) = t := by
  unfold eqS at h
  split at h <;> (try cases h) <;> cases hx <;> cases hy <;> refine ⟨rfl, ?_⟩ <;> first
    | (simp)
    | (exact decide_eq_false (fun z => nomatch z))
def gEq : D → D → (D → Prop) → Prop := fun d e P => match eqS d e with
  | some t => P (.bl t)
  | none => False
def gNe : D → D → (D → Prop) → Prop := fun d e P => match eqS d e with
  | some t => P (.bl (!t))
  | none => False
theorem od_eq : OpD X.K rEq gEq := by
  intro Hs H x y d e Q P s hx hy q k
  unfold gEq at q
  split at q
  · rename_i t ht
    obtain ⟨h1, h2⟩ := eqS_ok hx hy ht
    refine ⟨h1, ?_⟩
    rw [h2]
    exact k _ H Hs _ (Ext.refl s) (.bl _) q
  · exact q.elim
theorem od_ne : OpD X.K rNe gNe := by
  intro Hs H x y d e Q P s hx hy q k
  unfold gNe at q
  split at q
  · rename_i t ht
    obtain ⟨h1, h2⟩ := eqS_ok hx hy ht
    refine ⟨h1, ?_⟩
    rw [h2]
    exact k _ H Hs _ (Ext.refl s) (.bl _) q
  · exact q.elim
/-- is None -/
def gIsN : D → D → (D → Prop) → Prop := fun d e P => match e with
  | .non => match d with
    | .non => P (.bl true)
    | .obj _ => False
    | .scr _ => False
    | _ => P (.bl false)
  | _ => False
def gNotN : D → D → (D → Prop) → Prop := fun d e P => match e with
  | .non => match d with
    | .non => P (.bl false)
    | .obj _ => False
    | .scr _ => False
    | _ => P (.bl true)
  | _ => False
theorem od_isN : OpD X.K (fun x y H Q => y = .non ∧ Q (.bl (decide (x = .non))) H) gIsN := by
  intro Hs H x y d e Q P s hx hy q k
  unfold gIsN at q
  split at q
  · cases hy
    refine ⟨rfl, ?_⟩
    cases hx <;> first
      | exact q.elim
      | (rw [decide_eq_true rfl]; exact k _ H Hs _ (Ext.refl s) (.bl _) q)
      | (rw [decide_eq_false (fun z => nomatch z)]; exact k _ H Hs _ (Ext.refl s) (.bl _) q)
  · exact q.elim
theorem od_notN : OpD X.K (fun x y H Q => y = .non ∧ Q (.bl (!decide (x = .non))) H) gNotN := by
  intro Hs H x y d e Q P s hx hy q k
  unfold gNotN at q
  split at q
  · cases hy
    refine ⟨rfl, ?_⟩
    cases hx <;> first
      | exact q.elim
      | (rw [decide_eq_true rfl]; exact k _ H Hs _ (Ext.refl s) (.bl _) q)
      | (rw [decide_eq_false (fun z => nomatch z)]; exact k _ H Hs _ (Ext.refl s) (.bl _) q)
  · exact q.elim
/-- x in a list or tuple of scalars -/
def D.toV : D → V
  | .non => .non
  | .bl b => .bl b
  | .int i => .int i
  | .str x => .str x
  | _ => .ty ""
def D.flat : D → Bool
  | .non | .bl _ | .int _ | .str _ => true
  | _ => false
theorem flat_v {K : PySem.W.Frag} {H : Hp} {v : V} {d : D} (h : Dd K H v d) (f : d.flat = true) : v = d.toV := by
  cases h <;> first | rfl | cases f
theorem flat_vs {K : PySem.W.Frag} {H : Hp} : ∀ {vs : List V} {ds : List D}, DdAll K H vs ds → ds.all D.flat = true → vs = ds.map D.toV
  | _, _, .nil, _ => rfl
  | _, _, .cons h t, f => by
    have f := Bool.and_eq_true_iff.mp (show (_ && _) = true from f)
    rw [List.map_cons, ← flat_v h f.1, ← flat_vs t f.2]
theorem toV_flat {d : D} (f : d.flat = true) : flatV d.toV = true := by cases d <;> first | rfl | cases f
theorem toV_flats : ∀ {ds : List D}, ds.all D.flat = true → (ds.map D.toV).all flatV = true
  | [], _ => rfl
  | d :: ds, f => by
    have f := Bool.and_eq_true_iff.mp (show (_ && _) = true from f)
    exact Bool.and_eq_true_iff.mpr ⟨toV_flat f.1, toV_flats f.2⟩
def inD (d : D) (ds : List D) : Bool := inV d.toV (ds.map D.toV)
def D.seq : D → Option (List D)
  | .lst ds => some ds
  | .tup ds => some ds
  | _ => none
def gIn : D → D → (D → Prop) → Prop := fun d e P => match e.seq with
  | some ds => (d.flat && ds.all D.flat) = true ∧ P (.bl (inD d ds))
  | _ => False
def gNotIn : D → D → (D → Prop) → Prop := fun d e P => match e.seq with
  | some ds => (d.flat && ds.all D.flat) = true ∧ P (.bl (!inD d ds))
  | _ => False
theorem seq_at {K : PySem.W.Frag} {Hs H : Hp} {v : V} {d : D} {ds : List D} (s : Same Hs H) (h : Dd K Hs v d) (e : d.seq = some ds) : ∃ p xs, v = .ref p ∧ (SqL K H p xs ∨ SqT K H p xs) ∧ DdAll K Hs xs ds := by
  cases h <;> (try cases e)
  · rename_i a xs h1 h2
    exact ⟨a, xs, rfl, .inl (SqL.of (s _ _ h1)), h2⟩
  · rename_i a xs h1 h2
    exact ⟨a, xs, rfl, .inr (sqT_mono s h1), h2⟩
theorem od_in : OpD X.K (rIn X.K false) gIn := by
  intro Hs H x y d e Q P s hx hy q k
  unfold gIn at q
  split at q
  · rename_i ds he
    obtain ⟨p, xs, rfl, hq, ha⟩ := seq_at s hy he
    obtain ⟨f, q⟩ := q
    obtain ⟨f1, f2⟩ := Bool.and_eq_true_iff.mp f
    have e1 := flat_v hx f1
    have e2 := flat_vs ha f2
    subst e1 e2
    exact ⟨p, _, rfl, hq, toV_flat f1, toV_flats f2, k _ H Hs _ (Ext.refl s) (.bl _) q⟩
  · exact q.elim
theorem od_notIn : OpD X.K (rIn X.K true) gNotIn := by
  intro Hs H x y d e Q P s hx hy q k
  unfold gNotIn at q
  split at q
  · rename_i ds he
    obtain ⟨p, xs, rfl, hq, ha⟩ := seq_at s hy he
    obtain ⟨f, q⟩ := q
    obtain ⟨f1, f2⟩ := Bool.and_eq_true_iff.mp f
    have e1 := flat_v hx f1
    have e2 := flat_vs ha f2
    subst e1 e2
    exact ⟨p, _, rfl, hq, toV_flat f1, toV_flats f2, k _ H Hs _ (Ext.refl s) (.bl _) q⟩
  · exact q.elim
end
end PD

namespace PD
open PySem PySem.Spec L2

theorem Rel.rebase {K : PySem.W.Frag} {Hb Hb' O Hs H : Hp} {σ : L2.St} {ρ : Cs} (r : Rel K Hb O Hs H σ ρ) (s : Same Hb' Hs) : Rel K Hb' O Hs H σ ρ := ⟨s, r.sub, r.out, r.len, r.ok, r.ow, r.apart⟩
/-! ### a name, whatever its cell -/
def fNm (i : Nat) : FE := fun ρ R => match ρ[i]? with
  | some (.sh d) => R d ρ
  | some (.ol ds) => R (.lst ds) (ρ.set i (.sh (.lst ds)))
  | some (.ok ds) => R (.dic ds) (ρ.set i (.sh (.dic ds)))
  | _ => False
section
variable {X : Cx} {pos : Pos}
theorem ev_nm (i : Nat) {x : Str} {pos : Pos} (hN : X.N[i]? = some x := by rfl) (hv : Vis X.env.scope x := by first | exact Or.inl rfl | exact Or.inr (Or.inl rfl) | exact Or.inr (Or.inr rfl)) (hd : (x == ("__debug__" : Str)) = false := by decide)
    (hcd : (x == ("__classdict__" : Str)) = false := by decide) : EV X (.Name x pos) (fNm i) := by
  refine weakE (pe_var hN hv hd hcd) fun σ H Q h => ?_
  obtain ⟨Hb, O, Hs, ρ, R, r, hf, k⟩ := h
  unfold fNm at hf
  split at hf
  · rename_i d e
    obtain ⟨v, e1, h1⟩ := r.var e
    exact ⟨v, e1, k v H Hs d ρ (Same.refl _) r h1 hf⟩
  · rename_i ds e
    obtain ⟨a, xs, e1, n, h1, h2⟩ := r.ok i _ e
    have sm : Same Hs (upd Hs a (.lst xs)) := fun b u z => by rw [upd_ne (ne_of_none z n)]; exact z
    have hd : Dd X.K (upd Hs a (.lst xs)) (.ref a) (.lst ds) := .lst upd_same (h2.mono sm)
    obtain ⟨r2, _⟩ := r.demote e rfl e1 h1 hd
    exact ⟨_, e1, k _ H _ _ _ sm r2 hd hf⟩
  · rename_i ds e
    obtain ⟨a, xs, e1, n, h1, h2⟩ := r.ok i _ e
    have sm : Same Hs (upd Hs a (.dK xs)) := fun b u z => by rw [upd_ne (ne_of_none z n)]; exact z
    have hd : Dd X.K (upd Hs a (.dK xs)) (.ref a) (.dic ds) := .dic upd_same (h2.mono sm)
    obtain ⟨r2, _⟩ := r.demote e rfl e1 h1 hd
    exact ⟨_, e1, k _ H _ _ _ sm r2 hd hf⟩
  · exact hf.elim
end

/-! ### targets -/
abbrev FGs := List D → Cs → (Cs → Prop) → Prop
def tGos (K : PySem.W.Frag) (f : FGs) : TGs := fun vs σ H Q => ∃ Hb O Hs ρ ds R, Rel K Hb O Hs H σ ρ ∧ DdAll K Hs vs ds ∧ f ds ρ R ∧ ∀ σ' H' Hs' ρ', Same Hs Hs' → Rel K Hb O Hs' H' σ' ρ' → R ρ' → Q σ' H'
def GVs (X : Cx) (es : List Expr) (f : FGs) : Prop := PGs X es (tGos X.K f)
section
variable {X : Cx} {pos : Pos} {e : Expr} {es : List Expr}
def gNm (i : Nat) : FG := fun d ρ R => R (ρ.set i (.sh d))
theorem gv_name (i : Nat) {x : Str} (hN : X.N.Nodup) (hi : X.N[i]? = some x := by rfl) (hx : Loc X.env.scope x := by first | exact Or.inl rfl | exact Or.inr rfl) (hf : X.fn x = true ∨ X.env.scope.names.lookup x = some .local := by first | exact .inl rfl | exact .inr rfl) : GV X (.Name x pos) (gNm i) := by
  refine weakG (pg_name hN hi hx hf) fun v σ H Q h => ?_
  obtain ⟨Hb, O, Hs, ρ, d, R, r, hd, hg, k⟩ := h
  exact k _ _ _ _ (Same.refl _) (r.store hd) hg
def gsNil : FGs := fun ds ρ R => match ds with
  | [] => R ρ
  | _ => False
def gsCons (f : FG) (fs : FGs) : FGs := fun ds ρ R => match ds with
  | d :: ds => f d ρ fun ρ1 => fs ds ρ1 R
  | [] => False
theorem gvs_nil : GVs X [] gsNil := by
  refine ⟨fun pins s σ H vs us Q I r h => ?_⟩
  obtain ⟨Hb, O, Hs, ρ, ds, R, rl, hd, hg, k⟩ := h
  cases hd with
  | nil => exact pgs_nil.run pins s σ H [] us Q I r ⟨rfl, k _ _ _ _ (Same.refl _) rl hg⟩
  | cons _ _ => exact hg.elim
theorem gvs_cons {f : FG} {fs : FGs} (h1 : GV X e f) (h2 : GVs X es fs) (hs : (assignEach (e :: es) X.env).map (·.2) = assign e X.env :: (assignEach es X.env).map (·.2) := by rfl) : GVs X (e :: es) (gsCons f fs) := by
  refine ⟨fun pins s σ H vs us Q I r h => ?_⟩
  refine (pgs_cons h1 h2 hs).run pins s σ H vs us Q I r ?_
  obtain ⟨Hb, O, Hs, ρ, ds, R, rl, hd, hg, k⟩ := h
  cases hd with
  | nil => exact hg.elim
  | cons a b => exact ⟨_, _, rfl, Hb, O, Hs, ρ, _, _, rl, a, hg, fun σ' H' Hs' ρ' s' r' q => ⟨Hb, O, Hs', ρ', _, _, r', b.mono s', q, fun σ'' H'' Hs'' ρ'' s'' => k σ'' H'' Hs'' ρ'' (s'.trans s'')⟩⟩
def gTu (n : Nat) (fs : FGs) : FG := fun d ρ R => match d with
  | .tup ds => match Nat.beq ds.length n with
    | true => fs ds ρ R
    | false => False
  | _ => False
theorem gv_tup {fs : FGs} {k n : Nat} (hc : X.calm = true) (h : GVs X es fs) (hn : (assignEach es X.env).length = n := by rfl) (hst : (assignEach es X.env).findIdx? (·.1) = none := by rfl) : GV X (.Tuple es k pos) (gTu n fs) := by
  refine weakG (pg_tup hc h hn hst) fun v σ H Q h => ?_
  obtain ⟨Hb, O, Hs, ρ, d, R, r, hd, hg, k⟩ := h
  unfold gTu at hg
  split at hg
  · rename_i ds
    split at hg
    · rename_i hl
      cases hd with
      | tup h1 h2 => exact ⟨_, _, rfl, sqT_mono r.sub h1, h2.length.trans (Nat.eq_of_beq_eq_true hl), Hb, O, Hs, ρ, ds, R, r, h2, hg, k⟩
    · exact hg.elim
  · exact hg.elim
end

/-! ### statements -/
section
variable {X : Cx} {pos : Pos} {e : Expr} {st : Stmt} {sts : List Stmt}
def sSeq (f g : FS) : FS := fun DD ρ => f { DD with nx := fun ρ1 => g DD ρ1 } ρ
def sNil : FS := fun DD ρ => DD.nx ρ
theorem bv_nil : BV X [] sNil := by
  refine weakB pss_nil fun E σ H h => ?_
  obtain ⟨Hb, O, Hs, ρ, DD, r, hf, k⟩ := h
  exact k.nx _ _ _ _ r hf
theorem bv_one {f : FS} (h : SV X st f) : BV X [st] f := pss_one h
theorem bv_cons {f g : FS} (h1 : SV X st f) (h2 : BV X sts g) : BV X (st :: sts) (sSeq f g) := by
  refine weakB (pss_cons h1 h2) fun E σ H h => ?_
  obtain ⟨Hb, O, Hs, ρ, DD, r, hf, k⟩ := h
  exact ⟨Hb, O, Hs, ρ, _, r, hf, ⟨fun σ' H' Hs' ρ' r' q => ⟨Hb, O, Hs', ρ', DD, r', q, k⟩, k.rt, k.bk, k.ct⟩⟩
/-- code that is never come to -/
def sNo : FS := fun _ _ => False
theorem sv_never : SV X st sNo := weakS ps_never fun E σ H h => by
  obtain ⟨_, _, _, _, _, _, hf, _⟩ := h
  exact hf
theorem bv_never : BV X sts sNo := weakB pss_never fun E σ H h => by
  obtain ⟨_, _, _, _, _, _, hf, _⟩ := h
  exact hf
theorem sv_pass : SV X (.Pass pos) sNil := by
  refine weakS ps_pass fun E σ H h => ?_
  obtain ⟨Hb, O, Hs, ρ, DD, r, hf, k⟩ := h
  exact k.nx _ _ _ _ r hf
def sBreak : FS := fun DD ρ => DD.bk ρ
theorem sv_break : SV X (.Break pos) sBreak := by
  refine weakS ps_break fun E σ H h => ?_
  obtain ⟨Hb, O, Hs, ρ, DD, r, hf, k⟩ := h
  exact k.bk _ _ _ _ r hf
def sCont : FS := fun DD ρ => DD.ct ρ
theorem sv_cont : SV X (.Continue pos) sCont := by
  refine weakS ps_continue fun E σ H h => ?_
  obtain ⟨Hb, O, Hs, ρ, DD, r, hf, k⟩ := h
  exact k.ct _ _ _ _ r hf
def sRet (fe : FE) : FS := fun DD ρ => fe ρ fun d ρ1 => DD.rt d ρ1
theorem sv_ret {fe : FE} (he : EV X e fe) : SV X (.Return (some e) pos) (sRet fe) := by
  refine weakS (ps_ret he) fun E σ H h => ?_
  obtain ⟨Hb, O, Hs, ρ, DD, r, hf, k⟩ := h
  exact ⟨Hb, O, Hs, ρ, _, r, hf, fun v H1 Hs1 d ρ1 _ r1 h1 q1 => k.rt v σ H1 Hs1 ρ1 d r1 h1 q1⟩
def sRetN : FS := fun DD ρ => DD.rt .non ρ
theorem sv_retN : SV X (.Return none pos) sRetN := by
  refine weakS ps_retN fun E σ H h => ?_
  obtain ⟨Hb, O, Hs, ρ, DD, r, hf, k⟩ := h
  exact k.rt _ σ _ _ _ _ r .non hf
def sExpr (fe : FE) : FS := fun DD ρ => fe ρ fun _ ρ1 => DD.nx ρ1
theorem sv_expr {fe : FE} (he : EV X e fe) (hs : swapsWith e none pos.line X.env = pure false := by rfl) : SV X (.Expr e pos) (sExpr fe) := by
  refine weakS (ps_expr he hs) fun E σ H h => ?_
  obtain ⟨Hb, O, Hs, ρ, DD, r, hf, k⟩ := h
  exact ⟨Hb, O, Hs, ρ, _, r, hf, fun v H1 Hs1 d ρ1 _ r1 _ q1 => k.nx _ _ _ _ r1 q1⟩
def sIf (c : FT) (f g : FS) : FS := fun DD ρ => c ρ fun b ρ1 => if b = true then f DD ρ1 else g DD ρ1
theorem sv_if {c : Expr} {a b : List Stmt} {fc : FT} {f g : FS} (hc : TV X c fc) (ha : BV X a f) (hb : BV X b g) : SV X (.If c a b pos) (sIf fc f g) := by
  refine weakS (ps_if hc ha hb) fun E σ H h => ?_
  obtain ⟨Hb, O, Hs, ρ, DD, r, hf, k⟩ := h
  refine ⟨Hb, O, Hs, ρ, _, r, hf, fun b H1 Hs1 ρ1 _ r1 q1 => ?_⟩
  cases b with
  | true =>
    rw [if_pos rfl] at q1 ⊢
    exact ⟨Hb, O, Hs1, ρ1, DD, r1, q1, k⟩
  | false =>
    rw [if_neg Bool.false_ne_true] at q1 ⊢
    exact ⟨Hb, O, Hs1, ρ1, DD, r1, q1, k⟩
def sSet (i : Nat) (fe : FE) : FS := fun DD ρ => fe ρ fun d ρ1 => DD.nx (ρ1.set i (.sh d))
theorem sv_set (i : Nat) {x : Str} {pos' : Pos} {fe : FE} (hN : X.N.Nodup) (he : EV X e fe) (hi : X.N[i]? = some x := by rfl) (hx : Loc X.env.scope x := by first | exact Or.inl rfl | exact Or.inr rfl) (hs : swapsWith e (some (.Name x pos')) pos.line X.env = pure false := by rfl)
    (hf : X.fn x = true ∨ X.env.scope.names.lookup x = some .local := by first | exact .inl rfl | exact .inr rfl) : SV X (.Assign [.Name x pos'] e pos) (sSet i fe) := by
  refine weakS (ps_set hN hi hx he hs hf) fun E σ H h => ?_
  obtain ⟨Hb, O, Hs, ρ, DD, r, hf, k⟩ := h
  exact ⟨Hb, O, Hs, ρ, _, r, hf, fun v H1 Hs1 d ρ1 _ r1 h1 q1 => k.nx _ _ _ _ (r1.store h1) q1⟩
def sSetL (i : Nat) (fe : FA) : FS := fun DD ρ => fe ρ fun ds ρ1 => match Nat.blt i ρ1.length with
  | true => DD.nx (ρ1.set i (.ol ds))
  | false => False
theorem sv_setL (i : Nat) {x : Str} {pos' : Pos} {fe : FA} (hN : X.N.Nodup) (he : LV X e fe) (hi : X.N[i]? = some x := by rfl) (hx : Loc X.env.scope x := by first | exact Or.inl rfl | exact Or.inr rfl) (hs : swapsWith e (some (.Name x pos')) pos.line X.env = pure false := by rfl)
    (hf : X.fn x = true ∨ X.env.scope.names.lookup x = some .local := by first | exact .inl rfl | exact .inr rfl) : SV X (.Assign [.Name x pos'] e pos) (sSetL i fe) := by
  refine weakS (ps_set hN hi hx he hs hf) fun E σ H h => ?_
  obtain ⟨Hb, O, Hs, ρ, DD, r, hf, k⟩ := h
  refine ⟨Hb, O, Hs, ρ, _, r, hf, fun p xs H1 Hs1 ds ρ1 _ r1 hO h1 q1 => ?_⟩
  split at q1
  · rename_i hl
    obtain ⟨n1, a1⟩ := r1.out p _ upd_same
    exact k.nx _ _ _ _ (r1.take (c := .ol ds) hO (Nat.le_of_ble_eq_true hl) ⟨p, xs, rfl, n1, a1, h1⟩) q1
  · exact q1.elim
def sAsg (fe : FE) (g : FG) : FS := fun DD ρ => fe ρ fun d ρ1 => g d ρ1 DD.nx
theorem sv_asg {tg : Expr} {fe : FE} {g : FG} (he : EV X e fe) (hg : GV X tg g) (hs : swapsWithSole [tg] e pos.line X.env = pure false := by rfl) (hw : swappedStores [tg] e X.env = pure none := by rfl)
    (h1 : (assignEach [tg] X.env).map (·.2) = [assign tg X.env] := by rfl) : SV X (.Assign [tg] e pos) (sAsg fe g) := by
  refine weakS (ps_asg he hg hs hw h1) fun E σ H h => ?_
  obtain ⟨Hb, O, Hs, ρ, DD, r, hf, k⟩ := h
  exact ⟨Hb, O, Hs, ρ, _, r, hf, fun v H1 Hs1 d ρ1 _ r1 h1 q1 => ⟨Hb, O, Hs1, ρ1, d, _, r1, h1, q1, fun σ' H' Hs' ρ' _ r' q => k.nx _ _ _ _ r' q⟩⟩
/-- a, b = x, y with plain names -/
def sPar (i j : Nat) (fa fb : FE) : FS := fun DD ρ => fa ρ fun d ρ1 => fb ρ1 fun e ρ2 => DD.nx ((ρ2.set i (.sh d)).set j (.sh e))
theorem sv_par (i j : Nat) {x y : Str} {a b : Expr} {fa fb : FE} {px py pt : Pos} {kt k2 pt2} (hc : X.calm = true) (hN : X.N.Nodup) (ha : EV X a fa) (hb : EV X b fb) (hi : X.N[i]? = some x := by rfl) (hj : X.N[j]? = some y := by rfl) (hij : i ≠ j := by decide)
    (hx : X.env.scope.names.lookup x = some .local := by rfl) (hy : X.env.scope.names.lookup y = some .local := by rfl) (na : starEach [a, b] X.env = (false, eval a X.env) :: starEach [b] X.env := by rfl) (nb : starEach [b] X.env = (false, eval b X.env) :: starEach [] X.env := by rfl)
    (hw : swappedStores [.Tuple [.Name x px, .Name y py] kt pt] (.Tuple [a, b] k2 pt2) X.env = pure (some [x, y]) := by rfl)
    (hs : swapsWithSole [.Tuple [.Name x px, .Name y py] kt pt] (.Tuple [a, b] k2 pt2) pos.line X.env = pure false := by rfl) :
    SV X (.Assign [.Tuple [.Name x px, .Name y py] kt pt] (.Tuple [a, b] k2 pt2) pos) (sPar i j fa fb) := by
  refine weakS (ps_par hc hN hi hj hij hx hy (pa_cons ha (pa_cons hb pa_nil nb) na) hw hs) fun E σ H h => ?_
  obtain ⟨Hb, O, Hs, ρ, DD, r, hf, k⟩ := h
  refine ⟨Hb, O, Hs, ρ, _, r, hf, fun v H1 Hs1 d ρ1 _ r1 h1 q1 => ⟨Hb, O, Hs1, ρ1, _, r1, q1, fun w H2 Hs2 e ρ2 s2 r2 h2 q2 => ⟨v, w, rfl, ?_⟩⟩⟩
  exact k.nx _ _ _ _ ((r2.store (h1.mono s2)).store h2) q2
/-- a, b = [..], y -/
def sParL (i j : Nat) (fa : FA) (fb : FE) : FS := fun DD ρ => fa ρ fun ds ρ1 => fb ρ1 fun e ρ2 => match Nat.blt i ρ2.length with
  | true => DD.nx ((ρ2.set i (.ol ds)).set j (.sh e))
  | false => False
theorem sv_parL (i j : Nat) {x y : Str} {a b : Expr} {fa : FA} {fb : FE} {px py pt : Pos} {kt k2 pt2} (hc : X.calm = true) (hN : X.N.Nodup) (ha : LV X a fa) (hb : EV X b fb) (hi : X.N[i]? = some x := by rfl) (hj : X.N[j]? = some y := by rfl) (hij : i ≠ j := by decide)
    (hx : X.env.scope.names.lookup x = some .local := by rfl) (hy : X.env.scope.names.lookup y = some .local := by rfl) (na : starEach [a, b] X.env = (false, eval a X.env) :: starEach [b] X.env := by rfl) (nb : starEach [b] X.env = (false, eval b X.env) :: starEach [] X.env := by rfl)
    (hw : swappedStores [.Tuple [.Name x px, .Name y py] kt pt] (.Tuple [a, b] k2 pt2) X.env = pure (some [x, y]) := by rfl)
    (hs : swapsWithSole [.Tuple [.Name x px, .Name y py] kt pt] (.Tuple [a, b] k2 pt2) pos.line X.env = pure false := by rfl) :
    SV X (.Assign [.Tuple [.Name x px, .Name y py] kt pt] (.Tuple [a, b] k2 pt2) pos) (sParL i j fa fb) := by
  refine weakS (ps_par hc hN hi hj hij hx hy (pa_cons ha (pa_cons hb pa_nil nb) na) hw hs) fun E σ H h => ?_
  obtain ⟨Hb, O, Hs, ρ, DD, r, hf, k⟩ := h
  refine ⟨Hb, O, Hs, ρ, _, r, hf, fun p xs H1 Hs1 ds ρ1 _ r1 hO h1 q1 => ⟨Hb, _, Hs1, ρ1, _, r1, q1, fun w H2 Hs2 e ρ2 s2 r2 h2 q2 => ⟨_, w, rfl, ?_⟩⟩⟩
  split at q2
  · rename_i hl
    obtain ⟨n1, a1⟩ := r2.out p _ upd_same
    exact k.nx _ _ _ _ ((r2.take (c := .ol ds) hO (Nat.le_of_ble_eq_true hl) ⟨p, xs, rfl, n1, a1, h1.mono s2⟩).store h2) q2
  · exact q2.elim
/-- three names -/
def sPar3 (i j l : Nat) (fa fb fc : FE) : FS := fun DD ρ => fa ρ fun d ρ1 => fb ρ1 fun e ρ2 => fc ρ2 fun g ρ3 => DD.nx (((ρ3.set i (.sh d)).set j (.sh e)).set l (.sh g))
theorem sv_par3 (i j l : Nat) {x y z : Str} {a b c : Expr} {fa fb fc : FE} {px py pz pt : Pos} {kt k2 pt2} (hc : X.calm = true) (hN : X.N.Nodup) (ha : EV X a fa) (hb : EV X b fb) (hcc : EV X c fc) (hi : X.N[i]? = some x := by rfl) (hj : X.N[j]? = some y := by rfl) (hl : X.N[l]? = some z := by rfl)
    (hij : i ≠ j := by decide) (hil : i ≠ l := by decide) (hjl : j ≠ l := by decide)
    (hx : X.env.scope.names.lookup x = some .local := by rfl) (hy : X.env.scope.names.lookup y = some .local := by rfl) (hz : X.env.scope.names.lookup z = some .local := by rfl) (na : starEach [a, b, c] X.env = (false, eval a X.env) :: starEach [b, c] X.env := by rfl) (nb : starEach [b, c] X.env = (false, eval b X.env) :: starEach [c] X.env := by rfl)
    (nc : starEach [c] X.env = (false, eval c X.env) :: starEach [] X.env := by rfl)
    (hw : swappedStores [.Tuple [.Name x px, .Name y py, .Name z pz] kt pt] (.Tuple [a, b, c] k2 pt2) X.env = pure (some [x, y, z]) := by rfl)
    (hs : swapsWithSole [.Tuple [.Name x px, .Name y py, .Name z pz] kt pt] (.Tuple [a, b, c] k2 pt2) pos.line X.env = pure false := by rfl) :
    SV X (.Assign [.Tuple [.Name x px, .Name y py, .Name z pz] kt pt] (.Tuple [a, b, c] k2 pt2) pos) (sPar3 i j l fa fb fc) := by
  refine weakS (ps_par3 hc hN hi hj hl hij hil hjl hx hy hz (pa_cons ha (pa_cons hb (pa_cons hcc pa_nil nc) nb) na) hw hs) fun E σ H h => ?_
  obtain ⟨Hb, O, Hs, ρ, DD, r, hf, k⟩ := h
  refine ⟨Hb, O, Hs, ρ, _, r, hf, fun v H1 Hs1 d ρ1 _ r1 h1 q1 => ⟨Hb, O, Hs1, ρ1, _, r1, q1, fun w H2 Hs2 e ρ2 s2 r2 h2 q2 => ⟨Hb, O, Hs2, ρ2, _, r2, q2, fun u H3 Hs3 g ρ3 s3 r3 h3 q3 => ⟨v, w, u, rfl, ?_⟩⟩⟩⟩
  exact k.nx _ _ _ _ (((r3.store ((h1.mono s2).mono s3)).store (h2.mono s3)).store h3) q3
/-- x += e, x -= e of ints -/
def sAug (g : Int → Int → Int) (i : Nat) (fe : FE) : FS := fun DD ρ => match ρ[i]? with
  | some (.sh (.int a)) => fe ρ fun d ρ1 => match d with
    | .int b => DD.nx (ρ1.set i (.sh (.int (g a b))))
    | _ => False
  | _ => False
theorem sv_augI {op : Operator} {g : Int → Int → Int} (i : Nat) {x : Str} {pos' : Pos} {fe : FE} (ho : PIp X op (ipI g)) (hN : X.N.Nodup) (he : EV X e fe) (hi : X.N[i]? = some x) (hx : Loc X.env.scope x)
    (hf : X.fn x = true ∨ X.env.scope.names.lookup x = some .local) : SV X (.AugAssign (.Name x pos') op e pos) (sAug g i fe) := by
  refine weakS (ps_aug hN hi hx he ho hf) fun E σ H h => ?_
  obtain ⟨Hb, O, Hs, ρ, DD, r, hf, k⟩ := h
  unfold sAug at hf
  split at hf
  · rename_i a ea
    obtain ⟨v, e1, h1⟩ := r.var ea
    cases h1
    refine ⟨_, e1, Hb, O, Hs, ρ, _, r, hf, fun v H1 Hs1 d ρ1 _ r1 h1 q1 => ?_⟩
    split at q1
    · cases h1
      exact ⟨_, _, rfl, rfl, k.nx _ _ _ _ (r1.store (.int _)) q1⟩
    · exact q1.elim
  · exact hf.elim
theorem sv_inc (i : Nat) {x : Str} {pos' : Pos} {fe : FE} (hN : X.N.Nodup) (he : EV X e fe) (hi : X.N[i]? = some x := by rfl) (hx : Loc X.env.scope x := by first | exact Or.inl rfl | exact Or.inr rfl)
    (hf : X.fn x = true ∨ X.env.scope.names.lookup x = some .local := by first | exact .inl rfl | exact .inr rfl) : SV X (.AugAssign (.Name x pos') .Add e pos) (sAug (fun a b => a + b) i fe) := sv_augI i ip_add hN he hi hx hf
theorem sv_dec (i : Nat) {x : Str} {pos' : Pos} {fe : FE} (hN : X.N.Nodup) (he : EV X e fe) (hi : X.N[i]? = some x := by rfl) (hx : Loc X.env.scope x := by first | exact Or.inl rfl | exact Or.inr rfl)
    (hf : X.fn x = true ∨ X.env.scope.names.lookup x = some .local := by first | exact .inl rfl | exact .inr rfl) : SV X (.AugAssign (.Name x pos') .Sub e pos) (sAug (fun a b => a - b) i fe) := sv_augI i ip_sub hN he hi hx hf
/-! ### loops -/
def sWhile (c : FT) (f : FS) : FS := fun DD ρ => ∃ W : Nat → Cs → Prop, (∃ m, W m ρ) ∧ ∀ m ρ, W m ρ → c ρ fun b ρ1 => if b = true then f { DD with nx := fun ρ' => ∃ m', m' < m ∧ W m' ρ', ct := fun ρ' => ∃ m', m' < m ∧ W m' ρ', bk := DD.nx } ρ1 else DD.nx ρ1
theorem sv_while {c : Expr} {body : List Stmt} {fc : FT} {f : FS} (hp : PassesOwn (model X.prog X.w) X.A X.env X.xe) (hc : TV X c fc) (hb : BV X body f) : SV X (.While c body [] pos) (sWhile fc f) := by
  refine weakS (ps_while hp hc hb) fun E σ H h => ?_
  obtain ⟨Hb, O, Hs, ρ, DD, r, ⟨W, ⟨m0, w0⟩, step⟩, k⟩ := h
  refine ⟨fun m σ H => ∃ Hs ρ, Rel X.K Hb O Hs H σ ρ ∧ W m ρ, ⟨m0, Hs, ρ, r, w0⟩, ?_⟩
  rintro m σ H ⟨Hs, ρ, r, w⟩
  refine ⟨Hb, O, Hs, ρ, _, r, step m ρ w, fun b H1 Hs1 ρ1 _ r1 q1 => ?_⟩
  cases b with
  | true =>
    rw [if_pos rfl] at q1 ⊢
    refine ⟨fun σ' H' => ∃ m', m' < m ∧ ∃ Hs ρ, Rel X.K Hb O Hs H' σ' ρ ∧ W m' ρ, fun σ' H' z => z, Hb, O, Hs1, ρ1, _, r1, q1, ?_⟩
    exact ⟨fun σ' H' Hs' ρ' r' ⟨m', l, w'⟩ => ⟨m', l, Hs', ρ', r', w'⟩, k.rt, k.nx, fun σ' H' Hs' ρ' r' ⟨m', l, w'⟩ => ⟨m', l, Hs', ρ', r', w'⟩⟩
  | false =>
    rw [if_neg Bool.false_ne_true] at q1 ⊢
    exact k.nx _ _ _ _ r1 q1
def sFor (fi : FA) (g : FG) (f : FS) : FS := fun DD ρ => fi ρ fun items ρ1 => ∃ Pv : Nat → Cs → Prop, Pv 0 ρ1 ∧ (∀ (i : Nat) (d : D) (ρ : Cs), items[i]? = some d → Pv i ρ → g d ρ fun ρ2 => f { DD with nx := Pv (i + 1), ct := Pv (i + 1), bk := DD.nx } ρ2) ∧ ∀ ρ, Pv items.length ρ → DD.nx ρ
theorem sv_for {tg iter : Expr} {body : List Stmt} {fi : FA} {g : FG} {f : FS} (hp : PassesOwn (model X.prog X.w) X.A X.env X.xe) (hc : X.calm = true) (hi : IV X tg iter fi) (hg : GV X tg g) (hb : BV X body f) (hs : ∀ x, foldedSetIterable iter X.env x = pure x := by intro _; rfl) :
    SV X (.For tg iter body [] pos) (sFor fi g f) := by
  refine weakS (ps_for hp hc hi hg hb hs) fun E σ H h => ?_
  obtain ⟨Hb, O, Hs, ρ, DD, r, hf, k⟩ := h
  refine ⟨Hb, O, Hs, ρ, _, r, hf, fun J H1 Hs1 items ρ1 s1 r1 it q1 => ?_⟩
  obtain ⟨Pv, p0, step, fin⟩ := q1
  obtain ⟨G, Y, wk, gG, gY⟩ := it
  have back : ∀ {σ H Hs ρ}, Rel X.K Hs1 O Hs H σ ρ → Rel X.K Hb O Hs H σ ρ := fun q => q.rebase (r1.base.trans q.base)
  refine for_it wk (fun i σ H => ∃ Hs ρ, Rel X.K Hs1 O Hs H σ ρ ∧ Pv i ρ) ⟨Hs1, ρ1, r1.rebase (Same.refl _), p0⟩ (fun i σ H _ ⟨Hs, ρ, r, _⟩ => gG Hs H r.base r.sub) ?_ fun σ H ⟨Hs, ρ, r, p⟩ => k.nx _ _ _ _ (back r) (fin ρ p)
  rintro i x σ H H' hi ⟨Hs, ρ, r, p⟩ y
  obtain ⟨d, Hs', ed, ex, hd⟩ := gY i Hs H x H' r.base r.sub hi y
  refine ⟨Hs1, O, Hs', ρ, d, _, r.ext ex, hd, step i d ρ ed p, fun σ' H' Hs' ρ' _ r' q => ⟨Hs1, O, Hs', ρ', _, r', q, ?_⟩⟩
  exact ⟨fun σ'' H'' Hs'' ρ'' r'' q => ⟨Hs'', ρ'', r'', q⟩, fun v σ'' H'' Hs'' ρ'' d r'' hd q => k.rt v σ'' H'' Hs'' ρ'' d (back r'') hd q, fun σ'' H'' Hs'' ρ'' r'' q => k.nx σ'' H'' Hs'' ρ'' (back r'') q, fun σ'' H'' Hs'' ρ'' r'' q => ⟨Hs'', ρ'', r'', q⟩⟩
end
end PD

namespace PD
open PySem PySem.Spec L2

/-! ### items -/
theorem ixN_len {α β : Type} {xs : List α} {ys : List β} (h : xs.length = ys.length) (i : Int) : ixN xs.length i = ixN ys.length i := by rw [h]
theorem atI_dd {K : PySem.W.Frag} {H : Hp} {vs : List V} {ds : List D} (h : DdAll K H vs ds) {i : Int} {d : D} (e : atI ds i = some d) : ∃ v, atI vs i = some v ∧ Dd K H v d := by
  unfold atI at e ⊢
  rw [h.length]
  cases q : ixN ds.length i with
  | none => rw [q] at e; cases e
  | some j =>
    rw [q] at e
    exact h.get j e
def gIx : D → D → (D → Prop) → Prop := fun d e P => match d.seq, e with
  | some ds, .int i => ∃ x, atI ds i = some x ∧ P x
  | _, _ => False
section
variable {X : Cx} {pos : Pos} {a b : Expr} {fa fb : FE}
theorem od_ix : OpD X.K (rIx X.K) gIx := by
  intro Hs H x y d e Q P s hx hy q k
  unfold gIx at q
  split at q
  · rename_i ds i hd
    obtain ⟨p, xs, rfl, hq, ha⟩ := seq_at s hx hd
    cases hy
    obtain ⟨x, e1, q⟩ := q
    obtain ⟨v, e2, hv⟩ := atI_dd ha e1
    have kk := k v H Hs x (Ext.refl s) hv q
    rcases hq with hq | hq
    · exact .inl ⟨p, xs, i, v, rfl, rfl, hq, e2, kk⟩
    · exact .inr (.inl ⟨p, xs, i, v, rfl, rfl, hq, e2, kk⟩)
  · exact q.elim
theorem ev_ix (ha : EV X a fa) (hb : EV X b fb) (hs : PlainIx b := by exact fun _ _ => rfl) : EV X (.Subscript a b pos) (fOp gIx fa fb) := weakE (pe_ix ix_seq ha hb hs) fun _ _ _ => opBody od_ix
/-- a[n], n written -/
def gIxC (n : Nat) : D → (D → Prop) → Prop := fun d P => match d.seq with
  | some ds => match ds[n]? with
    | some x => P x
    | none => False
  | _ => False
theorem ev_ixC {n : Nat} {j : Nat} {p2 : Pos} (ha : EV X a fa) (hs : PlainIx (.Constant (.int (n : Int)) j p2) := by exact fun _ _ => rfl) : EV X (.Subscript a (.Constant (.int (n : Int)) j p2) pos) (fUn (gIxC n) fa) := by
  refine weakE (pe_ix ix_seq ha pe_int hs) fun σ H Q h => ?_
  obtain ⟨Hb, O, Hs, ρ, R, rl, hf, k⟩ := h
  refine ⟨Hb, O, Hs, ρ, _, rl, hf, fun x H1 Hs1 d ρ1 s1 r1 h1 q1 => ?_⟩
  unfold gIxC at q1
  split at q1
  · rename_i ds hd
    obtain ⟨p, xs, rfl, hq, ha⟩ := seq_at r1.sub h1 hd
    split at q1
    · rename_i y e1
      obtain ⟨v, e2, hv⟩ := ha.get n e1
      have kk := k v H1 Hs1 y ρ1 s1 r1 hv q1
      rcases hq with hq | hq
      · exact .inl ⟨p, xs, n, v, rfl, rfl, hq, atI_nat e2, kk⟩
      · exact .inr (.inl ⟨p, xs, n, v, rfl, rfl, hq, atI_nat e2, kk⟩)
    · exact q1.elim
  · exact q1.elim
/-! ### a name's own list -/
/-- xs[e] -/
def fIxO (i : Nat) (fb : FE) : FE := fun ρ R => match ρ[i]? with
  | some (.ol _) => fb ρ fun e ρ1 => match ρ1[i]?, e with
    | some (.ol ds), .int z => ∃ x, atI ds z = some x ∧ R x ρ1
    | _, _ => False
  | _ => False
theorem ev_ixO (i : Nat) {x : Str} {px : Pos} (hb : EV X b fb) (hN : X.N[i]? = some x := by rfl) (hv : Vis X.env.scope x := by first | exact Or.inl rfl | exact Or.inr (Or.inl rfl) | exact Or.inr (Or.inr rfl)) (hs : PlainIx b := by exact fun _ _ => rfl)
    (hd : (x == ("__debug__" : Str)) = false := by decide) (hcd : (x == ("__classdict__" : Str)) = false := by decide) : EV X (.Subscript (.Name x px) b pos) (fIxO i fb) := by
  refine weakE (pe_ix ix_list (pe_var hN hv hd hcd) hb hs) fun σ H Q h => ?_
  obtain ⟨Hb, O, Hs, ρ, R, rl, hf, k⟩ := h
  unfold fIxO at hf
  split at hf
  · rename_i d0 e0
    obtain ⟨p, u, es, _, _⟩ := (rl.ok i _ e0).addr rfl
    refine ⟨_, es, Hb, O, Hs, ρ, _, rl, hf, fun y H1 Hs1 e ρ1 s1 r1 h1 q1 => ?_⟩
    split at q1
    · rename_i ds z e1
      obtain ⟨p', xs, es', n1, a1, t1⟩ := r1.ok i _ e1
      rw [es] at es'
      cases es'
      cases h1
      obtain ⟨x, ex, q1⟩ := q1
      obtain ⟨v, e2, hv⟩ := atI_dd t1 ex
      exact ⟨p, xs, z, v, rfl, rfl, SqL.of a1, e2, k v H1 Hs1 x ρ1 s1 r1 hv q1⟩
    · exact q1.elim
  · exact hf.elim
/-- xs[n], n written -/
def fIxOC (i n : Nat) : FE := fun ρ R => match olAt ρ[i]? with
  | some ds => match ds[n]? with
    | some x => R x ρ
    | none => False
  | none => False
theorem ev_ixOC (i : Nat) {n j : Nat} {x : Str} {px p2 : Pos} (hN : X.N[i]? = some x := by rfl) (hv : Vis X.env.scope x := by first | exact Or.inl rfl | exact Or.inr (Or.inl rfl) | exact Or.inr (Or.inr rfl)) (hs : PlainIx (.Constant (.int (n : Int)) j p2) := by exact fun _ _ => rfl)
    (hd : (x == ("__debug__" : Str)) = false := by decide) (hcd : (x == ("__classdict__" : Str)) = false := by decide) : EV X (.Subscript (.Name x px) (.Constant (.int (n : Int)) j p2) pos) (fIxOC i n) := by
  refine weakE (pe_ix ix_list (pe_var hN hv hd hcd) pe_int hs) fun σ H Q h => ?_
  obtain ⟨Hb, O, Hs, ρ, R, rl, hf, k⟩ := h
  unfold fIxOC at hf
  split at hf
  · rename_i ds e0
    obtain ⟨c, e0, e1, _⟩ := olAt_some e0
    obtain ⟨p, xs, es, n1, a1, t1, _⟩ := (rl.ok i _ e0).ol e1
    split at hf
    · rename_i y ey
      obtain ⟨v, e2, hv⟩ := t1.get n ey
      exact ⟨_, es, p, xs, n, v, rfl, rfl, SqL.of a1, atI_nat e2, k v H Hs y ρ (Same.refl _) rl hv hf⟩
    · exact hf.elim
  · exact hf.elim
/-- len(xs) -/
def fLenO (i : Nat) : FE := fun ρ R => match ρ[i]? with
  | some (.ol ds) => R (.int ds.length) ρ
  | some (.sh (.lst ds)) => R (.int ds.length) ρ
  | _ => False
theorem ev_lenO (i : Nat) {x : Str} {p px : Pos} (hm : X.mg "len" = none) (hN : X.N[i]? = some x := by rfl) (hv : Vis X.env.scope x := by first | exact Or.inl rfl | exact Or.inr (Or.inl rfl) | exact Or.inr (Or.inr rfl)) (hg : Gl X "len" := by rfl)
    (hd : (x == ("__debug__" : Str)) = false := by decide) (hcd : (x == ("__classdict__" : Str)) = false := by decide) (he : starEach [.Name x px] X.env = (false, eval (.Name x px) X.env) :: starEach [] X.env := by rfl)
    (hpl : (backTo pos (starEach [] X.env)).any (·.1) = false := by rfl) : EV X (.Call (.Name "len" p) [.Name x px] [] pos) (fLenO i) := by
  refine weakE (pe_callB call_len_seq hg hm PySem.boot_len (pa_cons (pe_var hN hv hd hcd) pa_nil he) (by decide) (by decide) he hpl) fun σ H Q h => ?_
  obtain ⟨Hb, O, Hs, ρ, R, rl, hf, k⟩ := h
  unfold fLenO at hf
  split at hf
  · rename_i ds e0
    obtain ⟨q, xs, es, n1, a1, t1⟩ := rl.ok i _ e0
    refine ⟨_, es, q, xs, rfl, .inl (SqL.of a1), ?_⟩
    rw [t1.length]
    exact k _ H Hs _ ρ (Same.refl _) rl (.int _) hf
  · rename_i ds e0
    obtain ⟨v, es, hv⟩ := rl.var e0
    cases hv with
    | lst h1 h2 =>
      refine ⟨_, es, _, _, rfl, .inl (SqL.of (rl.sub _ _ h1)), ?_⟩
      rw [h2.length]
      exact k _ H Hs _ ρ (Same.refl _) rl (.int _) hf
  · exact hf.elim
/-- xs.append(e) -/
def sApp (i : Nat) (fe : FE) : FS := fun DD ρ => match ρ[i]? with
  | some (.ol _) => fe ρ fun d ρ1 => match ρ1[i]? with
    | some (.ol ds) => ds.length ≤ 1000000 ∧ DD.nx (ρ1.set i (.ol (ds ++ [d])))
    | _ => False
  | _ => False
theorem sv_app (i : Nat) {o e : Expr} {apos cpos : Pos} {fe : FE} (hp : PE X (.Call (.Attribute o "append" apos) [e] [] cpos) (tBM X.K "list" rAppend (tVar i) (tCons (tE X.K fe) tNil)))
    (hs : swapsWith (.Call (.Attribute o "append" apos) [e] [] cpos) none pos.line X.env = pure false := by rfl) : SV X (.Expr (.Call (.Attribute o "append" apos) [e] [] cpos) pos) (sApp i fe) := by
  refine weakS (ps_expr hp hs) fun E σ H h => ?_
  obtain ⟨Hb, O, Hs, ρ, DD, rl, hf, k⟩ := h
  unfold sApp at hf
  split at hf
  · rename_i d0 e0
    obtain ⟨p, xs0, es, _, a0, _⟩ := rl.ok i _ e0
    refine ⟨_, es, .inl ⟨rfl, _, SqL.of a0⟩, Hb, O, Hs, ρ, _, rl, hf, fun y H1 Hs1 d ρ1 s1 r1 h1 q1 => ?_⟩
    split at q1
    · rename_i ds e1
      obtain ⟨p', xs, es', n1, a1, t1⟩ := r1.ok i _ e1
      rw [es] at es'
      cases es'
      refine ⟨p, xs, y, rfl, rfl, a1, small_line' (by rw [t1.length]; exact q1.1), ?_⟩
      exact k.nx _ _ _ _ (r1.mut (c' := .ol (ds ++ [d])) e1 rfl es fun H' hH => ⟨p, _, rfl, n1, hH, t1.append (.cons h1 .nil)⟩) q1.2
    · exact q1.elim
  · exact hf.elim
/-- xs[n] = .., n written -/
def gSetOC (i n : Nat) : FG := fun d ρ R => match olAt ρ[i]? with
  | some ds => match Nat.blt n ds.length with
    | true => R (putL ρ i (ds.set n d))
    | false => False
  | none => False
theorem gv_setOC (i : Nat) {n j : Nat} {x : Str} {px p2 : Pos} (hN : X.N[i]? = some x := by rfl) (hv : Vis X.env.scope x := by first | exact Or.inl rfl | exact Or.inr (Or.inl rfl) | exact Or.inr (Or.inr rfl))
    (hd : (x == ("__debug__" : Str)) = false := by decide) (hcd : (x == ("__classdict__" : Str)) = false := by decide) (ha : ∀ v, assign (.Subscript (.Name x px) (.Constant (.int (n : Int)) j p2) pos) X.env v = (do
      let ov ← holding [v] (eval (.Name x px) X.env)
      let iv ← holding [v, ov] (eval (.Constant (.int (n : Int)) j p2) X.env)
      standAt pos
      holding [v, ov, iv] (setItem ov iv v)
      release [v, ov, iv] []) := by intro _; rfl) : GV X (.Subscript (.Name x px) (.Constant (.int (n : Int)) j p2) pos) (gSetOC i n) := by
  refine weakG (pg_sub (pe_var hN hv hd hcd) pe_int set_list ha) fun v σ H Q h => ?_
  obtain ⟨Hb, O, Hs, ρ, d, R, r, hd, hg, k⟩ := h
  unfold gSetOC at hg
  split at hg
  · rename_i ds e0
    obtain ⟨c, e0, e1, ho⟩ := olAt_some e0
    obtain ⟨p, xs, es, n1, a1, t1, up⟩ := (r.ok i _ e0).ol e1
    split at hg
    · rename_i hl
      have hl : n < xs.length := by rw [t1.length]; exact Nat.le_of_ble_eq_true hl
      refine ⟨_, es, p, xs, n, n, rfl, rfl, a1, ?_, ?_⟩
      · unfold ixN
        rw [if_pos (Int.natCast_nonneg n), if_pos (by omega)]
        rfl
      · have m := r.mut (c' := c.upd (ds.set n d)) e0 ho es fun H' hH => es ▸ up Hs H' _ _ n1 hH (t1.set hd n)
        refine k _ _ _ _ (Same.refl _) m ?_
        unfold putL at hg
        rw [e0] at hg
        exact hg
    · exact hg.elim
  · exact hg.elim
end
end PD

namespace PD
open PySem PySem.Spec L2

/-! ### built-in functions -/
/-- a new list out of a call -/
def CaL (K : PySem.W.Frag) (r : List V → Hp → VK → Prop) (g : List D → (List D → Prop) → Prop) : Prop := ∀ {Hs H : Hp} {xs : List V} {ds : List D} {Q : VK} {P : List D → Prop}, Same Hs H → DdAll K Hs xs ds → g ds P →
  (∀ p ys ds', H p = none → DdAll K Hs ys ds' → P ds' → Q (.ref p) (upd H p (.lst ys))) → r xs H Q
section
variable {X : Cx} {pos p : Pos} {x : Str} {e : Expr} {es : List Expr} {fa : FA}
theorem ev_blt {id : String} {r : List V → Hp → VK → Prop} {g : List D → (D → Prop) → Prop} (hc : CallR X (.builtin id) r) (hd : CaD X.K r g) (hv : bootBuiltins x = some (.builtin id)) (hm : X.mg x = none) (ha : AV X (e :: es) fa) (hg : Gl X x := by rfl) (hn : x ≠ "__name__" := by decide) (hdb : (x == ("__debug__" : Str)) = false := by decide)
    (he : starEach (e :: es) X.env = (false, eval e X.env) :: starEach es X.env := by rfl) (hpl : (backTo pos (starEach es X.env)).any (·.1) = false := by rfl) : EV X (.Call (.Name x p) (e :: es) [] pos) (fCa g fa) := by
  refine weakE (pe_callB hc hg hm hv ha hn hdb he hpl) fun σ H Q h => ?_
  obtain ⟨Hb, O, Hs, ρ, R, rl, hf, k⟩ := h
  exact ⟨Hb, O, Hs, ρ, _, rl, hf, fun vs H1 Hs1 ds ρ1 s1 r1 h1 q1 => hd r1.sub h1 q1 fun v H3 Hs3 z x3 h3 q3 => k v H3 Hs3 z ρ1 (s1.trans x3.sh) (r1.ext x3) h3 q3⟩
theorem ev_ty {T : String} {r : List V → Hp → VK → Prop} {g : List D → (D → Prop) → Prop} (hc : CallR X (.type T) r) (hd : CaD X.K r g) (hv : bootBuiltins x = some (.type T)) (hm : X.mg x = none) (ha : AV X (e :: es) fa) (hg : Gl X x := by rfl) (hn : x ≠ "__name__" := by decide) (hdb : (x == ("__debug__" : Str)) = false := by decide)
    (he : starEach (e :: es) X.env = (false, eval e X.env) :: starEach es X.env := by rfl) (hpl : (backTo pos (starEach es X.env)).any (·.1) = false := by rfl) : EV X (.Call (.Name x p) (e :: es) [] pos) (fCa g fa) := by
  refine weakE (pe_callTy hc hg hm hv ha hn hdb he hpl) fun σ H Q h => ?_
  obtain ⟨Hb, O, Hs, ρ, R, rl, hf, k⟩ := h
  exact ⟨Hb, O, Hs, ρ, _, rl, hf, fun vs H1 Hs1 ds ρ1 s1 r1 h1 q1 => hd r1.sub h1 q1 fun v H3 Hs3 z x3 h3 q3 => k v H3 Hs3 z ρ1 (s1.trans x3.sh) (r1.ext x3) h3 q3⟩
def fCaL (g : List D → (List D → Prop) → Prop) (fa : FA) : FA := fun ρ R => fa ρ fun ds ρ1 => g ds fun z => R z ρ1
theorem lv_of {e : Expr} {r : List V → Hp → VK → Prop} {g : List D → (List D → Prop) → Prop} (hp : PE X e (tCB r (tAr X.K fa))) (hd : CaL X.K r g) : LV X e (fCaL g fa) := by
  refine weakE hp fun σ H Q h => ?_
  obtain ⟨Hb, O, Hs, ρ, R, rl, hf, k⟩ := h
  refine ⟨Hb, O, Hs, ρ, _, rl, hf, fun vs H1 Hs1 ds ρ1 s1 r1 h1 q1 => hd r1.sub h1 q1 fun p ys ds' hp h3 q3 => ?_⟩
  obtain ⟨r2, hO⟩ := r1.lay (o := .lst ys) hp
  exact k p ys _ _ ds' ρ1 s1 r2 hO h3 q3
theorem lv_blt {id : String} {r : List V → Hp → VK → Prop} {g : List D → (List D → Prop) → Prop} (hc : CallR X (.builtin id) r) (hd : CaL X.K r g) (hv : bootBuiltins x = some (.builtin id)) (hm : X.mg x = none) (ha : AV X (e :: es) fa) (hg : Gl X x := by rfl) (hn : x ≠ "__name__" := by decide) (hdb : (x == ("__debug__" : Str)) = false := by decide)
    (he : starEach (e :: es) X.env = (false, eval e X.env) :: starEach es X.env := by rfl) (hpl : (backTo pos (starEach es X.env)).any (·.1) = false := by rfl) : LV X (.Call (.Name x p) (e :: es) [] pos) (fCaL g fa) := lv_of (pe_callB hc hg hm hv ha hn hdb he hpl) hd
theorem lv_ty {T : String} {r : List V → Hp → VK → Prop} {g : List D → (List D → Prop) → Prop} (hc : CallR X (.type T) r) (hd : CaL X.K r g) (hv : bootBuiltins x = some (.type T)) (hm : X.mg x = none) (ha : AV X (e :: es) fa) (hg : Gl X x := by rfl) (hn : x ≠ "__name__" := by decide) (hdb : (x == ("__debug__" : Str)) = false := by decide)
    (he : starEach (e :: es) X.env = (false, eval e X.env) :: starEach es X.env := by rfl) (hpl : (backTo pos (starEach es X.env)).any (·.1) = false := by rfl) : LV X (.Call (.Name x p) (e :: es) [] pos) (fCaL g fa) := lv_of (pe_callTy hc hg hm hv ha hn hdb he hpl) hd
end
def gAbs : List D → (D → Prop) → Prop := fun ds P => match ds with
  | [.int i] => P (.int i.natAbs)
  | _ => False
def gInt : List D → (D → Prop) → Prop := fun ds P => match ds with
  | [.int i] => P (.int i)
  | _ => False
def gLen : List D → (D → Prop) → Prop := fun ds P => match ds with
  | [d] => match d.seq with
    | some xs => P (.int xs.length)
    | none => False
  | _ => False
def gTuple : List D → (D → Prop) → Prop := fun ds P => match ds with
  | [d] => match d.seq with
    | some xs => P (.tup xs)
    | none => False
  | _ => False
def gList : List D → (List D → Prop) → Prop := fun ds P => match ds with
  | [d] => match d.seq with
    | some xs => P xs
    | none => False
  | _ => False
def gMax : List D → (D → Prop) → Prop := fun ds P => match ds with
  | [.int i, .int j] => P (.int (if j > i then j else i))
  | _ => False
def gMin : List D → (D → Prop) → Prop := fun ds P => match ds with
  | [.int i, .int j] => P (.int (if j < i then j else i))
  | _ => False
def D.ints : List D → Option (List Int)
  | [] => some []
  | .int i :: ds => (D.ints ds).map (i :: ·)
  | _ => none
def D.bls : List D → Option (List Bool)
  | [] => some []
  | .bl i :: ds => (D.bls ds).map (i :: ·)
  | _ => none
theorem ints_map (ns : List Int) : D.ints (ns.map D.int) = some ns := by
  induction ns with
  | nil => rfl
  | cons n ns ih => simp only [List.map_cons, D.ints, ih, Option.map_some]
theorem bls_map (ns : List Bool) : D.bls (ns.map D.bl) = some ns := by
  induction ns with
  | nil => rfl
  | cons n ns ih => simp only [List.map_cons, D.bls, ih, Option.map_some]
section
variable {K : PySem.W.Frag} {H : Hp}
theorem ints_v : ∀ {vs : List V} {ds : List D} {ns : List Int}, DdAll K H vs ds → D.ints ds = some ns → vs = ns.map V.int
  | _, _, _, .nil, e => by cases e; rfl
  | _, _, ns, .cons h t, e => by
    cases h with
    | int i =>
      rename_i vs ds
      simp only [D.ints] at e
      cases q : D.ints ds with
      | none => rw [q] at e; cases e
      | some ms =>
        rw [q] at e
        cases e
        rw [ints_v t q, List.map_cons]
    | _ => simp [D.ints] at e
theorem bls_v : ∀ {vs : List V} {ds : List D} {ns : List Bool}, DdAll K H vs ds → D.bls ds = some ns → vs = ns.map V.bl
  | _, _, _, .nil, e => by cases e; rfl
  | _, _, ns, .cons h t, e => by
    cases h with
    | bl i =>
      rename_i vs ds
      simp only [D.bls] at e
      cases q : D.bls ds with
      | none => rw [q] at e; cases e
      | some ms =>
        rw [q] at e
        cases e
        rw [bls_v t q, List.map_cons]
    | _ => simp [D.bls] at e
theorem dd_ints : ∀ ns : List Int, DdAll K H (ns.map V.int) (ns.map D.int)
  | [] => .nil
  | n :: ns => .cons (.int n) (dd_ints ns)
end
/-- of a list of ints; of a list of bools -/
def gInts (g : List Int → D) : List D → (D → Prop) → Prop := fun ds P => match ds with
  | [.lst xs] => ∃ ns, D.ints xs = some ns ∧ P (g ns)
  | _ => False
def gBls (g : List Bool → Bool) : List D → (D → Prop) → Prop := fun ds P => match ds with
  | [.lst xs] => ∃ ns, D.bls xs = some ns ∧ P (.bl (g ns))
  | _ => False
def gSorted : List D → (List D → Prop) → Prop := fun ds P => match ds with
  | [.lst xs] => ∃ ns, D.ints xs = some ns ∧ ∀ ms : List Int, ms.Perm ns → ms.Pairwise (· ≤ ·) → P (ms.map .int)
  | _ => False
section
variable {X : Cx} {pos p : Pos} {e : Expr} {es : List Expr} {fa : FA}
theorem one_dd {K : PySem.W.Frag} {H : Hp} {xs : List V} {d : D} (h : DdAll K H xs [d]) : ∃ v, xs = [v] ∧ Dd K H v d := by
  cases h with
  | cons a b =>
    cases b
    exact ⟨_, rfl, a⟩
theorem two_dd {K : PySem.W.Frag} {H : Hp} {xs : List V} {d e : D} (h : DdAll K H xs [d, e]) : ∃ v w, xs = [v, w] ∧ Dd K H v d ∧ Dd K H w e := by
  cases h with
  | cons a b =>
    obtain ⟨w, rfl, h⟩ := one_dd b
    exact ⟨_, w, rfl, a, h⟩
theorem cd_abs : CaD X.K (fun xs H Q => ∃ i, xs = [.int i] ∧ Q (.int (if i < 0 then -i else i)) H) gAbs := by
  intro Hs H xs ds Q P s h q k
  unfold gAbs at q
  split at q
  · rename_i i
    obtain ⟨v, rfl, hv⟩ := one_dd h
    cases hv
    refine ⟨i, rfl, ?_⟩
    have e : (if i < 0 then -i else i) = ((i.natAbs : Nat) : Int) := by split <;> omega
    rw [e]
    exact k _ H Hs _ (Ext.refl s) (.int _) q
  · exact q.elim
theorem cd_int : CaD X.K (fun xs H Q => (∃ i, xs = [.int i] ∧ Q (.int i) H) ∨ ∃ k, xs = [.bl k] ∧ Q (.int (if k then 1 else 0)) H) gInt := by
  intro Hs H xs ds Q P s h q k
  unfold gInt at q
  split at q
  · obtain ⟨v, rfl, hv⟩ := one_dd h
    cases hv
    exact .inl ⟨_, rfl, k _ H Hs _ (Ext.refl s) (.int _) q⟩
  · exact q.elim
theorem cd_len : CaD X.K (fun xs H Q => ∃ p ys, xs = [.ref p] ∧ (SqL X.K H p ys ∨ SqT X.K H p ys) ∧ Q (.int ys.length) H) gLen := by
  intro Hs H xs ds Q P s h q k
  unfold gLen at q
  split at q
  · split at q
    · rename_i d xs hd
      obtain ⟨v, rfl, hv⟩ := one_dd h
      obtain ⟨p, ys, rfl, hq, ha⟩ := seq_at s hv hd
      refine ⟨p, ys, rfl, hq, ?_⟩
      rw [ha.length]
      exact k _ H Hs _ (Ext.refl s) (.int _) q
    · exact q.elim
  · exact q.elim
theorem cd_tuple : CaD X.K (fun xs H Q => ∃ p ys, xs = [.ref p] ∧ ((SqL X.K H p ys ∧ ∀ l, H l = none → Q (.ref l) (upd H l (.tup ys))) ∨ (SqT X.K H p ys ∧ Q (.ref p) H))) gTuple := by
  intro Hs H xs ds Q P s h q k
  unfold gTuple at q
  split at q
  · split at q
    · rename_i d xs hd
      obtain ⟨v, rfl, hv⟩ := one_dd h
      obtain ⟨p, ys, rfl, hq, ha⟩ := seq_at s hv hd
      cases hv with
      | @lst _ ys0 _ h1 h2 =>
        refine ⟨p, _, rfl, .inl ⟨SqL.of (s _ _ h1), fun l hl => ?_⟩⟩
        have x := Ext.new (o := .tup ys0) s hl
        cases hd
        exact k _ _ _ _ x (.tup (.inl (.inl upd_same)) (h2.mono x.sh)) q
      | tup h1 h2 =>
        cases hd
        exact ⟨p, _, rfl, .inr ⟨sqT_mono s h1, k _ H Hs _ (Ext.refl s) (.tup h1 h2) q⟩⟩
      | _ => cases hd
    · exact q.elim
  · exact q.elim
theorem cl_list : CaL X.K (fun xs H Q => ∃ p ys, xs = [.ref p] ∧ (SqL X.K H p ys ∨ SqT X.K H p ys) ∧ ∀ l, H l = none → Q (.ref l) (upd H l (.lst ys))) gList := by
  intro Hs H xs ds Q P s h q k
  unfold gList at q
  split at q
  · split at q
    · rename_i d xs hd
      obtain ⟨v, rfl, hv⟩ := one_dd h
      obtain ⟨p, ys, rfl, hq, ha⟩ := seq_at s hv hd
      exact ⟨p, ys, rfl, hq, fun l hl => k l ys _ hl ha q⟩
    · exact q.elim
  · exact q.elim
theorem cd_max : CaD X.K (fun xs H Q => ∃ i j, xs = [.int i, .int j] ∧ Q (.int (if j > i then j else i)) H) gMax := by
  intro Hs H xs ds Q P s h q k
  unfold gMax at q
  split at q
  · obtain ⟨v, w, rfl, hv, hw⟩ := two_dd h
    cases hv
    cases hw
    exact ⟨_, _, rfl, k _ H Hs _ (Ext.refl s) (.int _) q⟩
  · exact q.elim
theorem cd_min : CaD X.K (fun xs H Q => ∃ i j, xs = [.int i, .int j] ∧ Q (.int (if j < i then j else i)) H) gMin := by
  intro Hs H xs ds Q P s h q k
  unfold gMin at q
  split at q
  · obtain ⟨v, w, rfl, hv, hw⟩ := two_dd h
    cases hv
    cases hw
    exact ⟨_, _, rfl, k _ H Hs _ (Ext.refl s) (.int _) q⟩
  · exact q.elim
theorem cd_sum : CaD X.K (rSum X.K) (gInts fun ns => .int ns.sum) := by
  intro Hs H xs ds Q P s h q k
  unfold gInts at q
  split at q
  · obtain ⟨v, rfl, hv⟩ := one_dd h
    obtain ⟨ns, hn, q⟩ := q
    cases hv with
    | lst h1 h2 =>
      have e := ints_v h2 hn
      subst e
      exact ⟨_, ns, rfl, SqL.of (s _ _ h1), k _ H Hs _ (Ext.refl s) (.int _) q⟩
  · exact q.elim
theorem cd_all : CaD X.K (rAll X.K) (gBls fun bs => bs.all id) := by
  intro Hs H xs ds Q P s h q k
  unfold gBls at q
  split at q
  · obtain ⟨v, rfl, hv⟩ := one_dd h
    obtain ⟨ns, hn, q⟩ := q
    cases hv with
    | lst h1 h2 =>
      have e := bls_v h2 hn
      subst e
      exact ⟨_, ns, rfl, SqL.of (s _ _ h1), k _ H Hs _ (Ext.refl s) (.bl _) q⟩
  · exact q.elim
theorem cd_any : CaD X.K (rAny X.K) (gBls fun bs => bs.any id) := by
  intro Hs H xs ds Q P s h q k
  unfold gBls at q
  split at q
  · obtain ⟨v, rfl, hv⟩ := one_dd h
    obtain ⟨ns, hn, q⟩ := q
    cases hv with
    | lst h1 h2 =>
      have e := bls_v h2 hn
      subst e
      exact ⟨_, ns, rfl, SqL.of (s _ _ h1), k _ H Hs _ (Ext.refl s) (.bl _) q⟩
  · exact q.elim
theorem cl_sorted : CaL X.K (rSortedI X.K) gSorted := by
  intro Hs H xs ds Q P s h q k
  unfold gSorted at q
  split at q
  · obtain ⟨v, rfl, hv⟩ := one_dd h
    obtain ⟨ns, hn, q⟩ := q
    cases hv with
    | lst h1 h2 =>
      have e := ints_v h2 hn
      subst e
      exact ⟨_, ns, rfl, SqL.of (s _ _ h1), fun ms p hp ho hH => k p _ _ hH (dd_ints ms) (q ms hp ho)⟩
  · exact q.elim
theorem ev_abs (hm : X.mg "abs" = none) (ha : AV X (e :: es) fa) (hg : Gl X "abs" := by rfl) (he : starEach (e :: es) X.env = (false, eval e X.env) :: starEach es X.env := by rfl) (hpl : (backTo pos (starEach es X.env)).any (·.1) = false := by rfl) : EV X (.Call (.Name "abs" p) (e :: es) [] pos) (fCa gAbs fa) :=
  ev_blt call_abs cd_abs PyProof.Rows.boot_abs hm ha hg (by decide) (by decide) he hpl
theorem ev_len (hm : X.mg "len" = none) (ha : AV X (e :: es) fa) (hg : Gl X "len" := by rfl) (he : starEach (e :: es) X.env = (false, eval e X.env) :: starEach es X.env := by rfl) (hpl : (backTo pos (starEach es X.env)).any (·.1) = false := by rfl) : EV X (.Call (.Name "len" p) (e :: es) [] pos) (fCa gLen fa) :=
  ev_blt call_len_seq cd_len PySem.boot_len hm ha hg (by decide) (by decide) he hpl
theorem ev_intc (hm : X.mg "int" = none) (ha : AV X (e :: es) fa) (hg : Gl X "int" := by rfl) (he : starEach (e :: es) X.env = (false, eval e X.env) :: starEach es X.env := by rfl) (hpl : (backTo pos (starEach es X.env)).any (·.1) = false := by rfl) : EV X (.Call (.Name "int" p) (e :: es) [] pos) (fCa gInt fa) :=
  ev_ty call_int1 cd_int PyProof.Rows.boot_int hm ha hg (by decide) (by decide) he hpl
theorem ev_tuple (hm : X.mg "tuple" = none) (ha : AV X (e :: es) fa) (hg : Gl X "tuple" := by rfl) (he : starEach (e :: es) X.env = (false, eval e X.env) :: starEach es X.env := by rfl) (hpl : (backTo pos (starEach es X.env)).any (·.1) = false := by rfl) : EV X (.Call (.Name "tuple" p) (e :: es) [] pos) (fCa gTuple fa) :=
  ev_ty call_tuple_of cd_tuple PyProof.Rows.boot_tuple hm ha hg (by decide) (by decide) he hpl
theorem lv_list (hm : X.mg "list" = none) (ha : AV X (e :: es) fa) (hg : Gl X "list" := by rfl) (he : starEach (e :: es) X.env = (false, eval e X.env) :: starEach es X.env := by rfl) (hpl : (backTo pos (starEach es X.env)).any (·.1) = false := by rfl) : LV X (.Call (.Name "list" p) (e :: es) [] pos) (fCaL gList fa) :=
  lv_ty call_list_of cl_list PyProof.Rows.boot_list hm ha hg (by decide) (by decide) he hpl
theorem lv_sorted (hm : X.mg "sorted" = none) (ha : AV X (e :: es) fa) (hg : Gl X "sorted" := by rfl) (he : starEach (e :: es) X.env = (false, eval e X.env) :: starEach es X.env := by rfl) (hpl : (backTo pos (starEach es X.env)).any (·.1) = false := by rfl) : LV X (.Call (.Name "sorted" p) (e :: es) [] pos) (fCaL gSorted fa) :=
  lv_blt cr_sortedI cl_sorted PyProof.Rows.boot_sorted hm ha hg (by decide) (by decide) he hpl
theorem ev_sum (hc : X.calm = true) (hm : X.mg "sum" = none) (ha : AV X (e :: es) fa) (hg : Gl X "sum" := by rfl) (he : starEach (e :: es) X.env = (false, eval e X.env) :: starEach es X.env := by rfl) (hpl : (backTo pos (starEach es X.env)).any (·.1) = false := by rfl) : EV X (.Call (.Name "sum" p) (e :: es) [] pos) (fCa (gInts fun ns => .int ns.sum) fa) :=
  ev_blt (cr_sum hc) cd_sum (by decide +kernel) hm ha hg (by decide) (by decide) he hpl
theorem ev_all (hc : X.calm = true) (hm : X.mg "all" = none) (ha : AV X (e :: es) fa) (hg : Gl X "all" := by rfl) (he : starEach (e :: es) X.env = (false, eval e X.env) :: starEach es X.env := by rfl) (hpl : (backTo pos (starEach es X.env)).any (·.1) = false := by rfl) : EV X (.Call (.Name "all" p) (e :: es) [] pos) (fCa (gBls fun bs => bs.all id) fa) :=
  ev_blt (cr_all hc) cd_all (by decide +kernel) hm ha hg (by decide) (by decide) he hpl
theorem ev_any (hc : X.calm = true) (hm : X.mg "any" = none) (ha : AV X (e :: es) fa) (hg : Gl X "any" := by rfl) (he : starEach (e :: es) X.env = (false, eval e X.env) :: starEach es X.env := by rfl) (hpl : (backTo pos (starEach es X.env)).any (·.1) = false := by rfl) : EV X (.Call (.Name "any" p) (e :: es) [] pos) (fCa (gBls fun bs => bs.any id) fa) :=
  ev_blt (cr_any hc) cd_any (by decide +kernel) hm ha hg (by decide) (by decide) he hpl
theorem ev_max (hc : X.calm = true) (hm : X.mg "max" = none) (ha : AV X (e :: es) fa) (hg : Gl X "max" := by rfl) (he : starEach (e :: es) X.env = (false, eval e X.env) :: starEach es X.env := by rfl) (hpl : (backTo pos (starEach es X.env)).any (·.1) = false := by rfl) : EV X (.Call (.Name "max" p) (e :: es) [] pos) (fCa gMax fa) :=
  ev_blt (call_max2 hc) cd_max (by decide +kernel) hm ha hg (by decide) (by decide) he hpl
theorem ev_min (hc : X.calm = true) (hm : X.mg "min" = none) (ha : AV X (e :: es) fa) (hg : Gl X "min" := by rfl) (he : starEach (e :: es) X.env = (false, eval e X.env) :: starEach es X.env := by rfl) (hpl : (backTo pos (starEach es X.env)).any (·.1) = false := by rfl) : EV X (.Call (.Name "min" p) (e :: es) [] pos) (fCa gMin fa) :=
  ev_blt (call_min2 hc) cd_min (by decide +kernel) hm ha hg (by decide) (by decide) he hpl
/-! ### isinstance of a built-in class -/
def D.tyName : D → Option String
  | .non => some "NoneType"
  | .bl _ => some "bool"
  | .int _ => some "int"
  | .str _ => some "str"
  | .lst _ => some "list"
  | .tup _ => some "tuple"
  | .dic _ => some "dict"
  | .obj _ => none
  | .scr _ => none
theorem tyx_of {K : PySem.W.Frag} {Hs H : Hp} {v : V} {d : D} {T : String} (s : Same Hs H) (h : Dd K Hs v d) (e : d.tyName = some T) : TyX K H v (.type T) := by
  cases h <;> cases e
  · exact .base .non
  · exact .base (.bl _)
  · exact .base (.int _)
  · exact .base (.str _)
  · rename_i h1 h2
    exact .base (.lst (s _ _ h1))
  · rename_i h1 h2
    rcases h1 with (h | ⟨o, h⟩) | ⟨o, its, n, h, hc, _⟩
    · exact .base (.tup (s _ _ h))
    · exact .fTuple (s _ _ h)
    · exact .kTuple h hc
  · rename_i h1 h2
    exact .base (.dK (s _ _ h1))
/-- what isinstance tells: int, bool, str, tuple, list, dict -/
def isiD (T : String) (d : D) : Option Bool := match d.tyName with
  | none => none
  | some t => some (t == T || (t == "bool" && T == "int"))
def okTy (T : String) : Bool := T == "int" || T == "bool" || T == "str" || T == "tuple" || T == "list" || T == "dict"
theorem kit_isi {K : PySem.W.Frag} {T : String} {d : D} {b : Bool} {t : String} (hT : okTy T = true) (ht : d.tyName = some t) (h : isiD T d = some b) : PySem.W.kitOne K (.type t) (.type T) = some b := by
  refine kit_ty ?_
  unfold isiD at h
  rw [ht] at h
  have hb := Option.some.inj h
  subst hb
  have h1 : T = "int" ∨ T = "bool" ∨ T = "str" ∨ T = "tuple" ∨ T = "list" ∨ T = "dict" := by
    simpa [okTy, or_assoc] using hT
  have h2 : t = "NoneType" ∨ t = "bool" ∨ t = "int" ∨ t = "str" ∨ t = "list" ∨ t = "tuple" ∨ t = "dict" := by
    cases d <;> simp [D.tyName] at ht <;> simp [← ht]
  rcases h1 with rfl | rfl | rfl | rfl | rfl | rfl <;> rcases h2 with rfl | rfl | rfl | rfl | rfl | rfl | rfl <;> decide +kernel
def fIsi (T : String) (fa : FE) : FE := fun ρ R => fa ρ fun d ρ1 => match isiD T d with
  | some b => R (.bl b) ρ1
  | none => False
theorem ev_isi {T : String} {x : Str} {p2 : Pos} {fe : FE} (hT : okTy T = true) (hv : bootBuiltins x = some (.type T)) (hm : X.mg "isinstance" = none) (hm2 : X.mg x = none) (he : EV X e fe) (hg : Gl X "isinstance" := by rfl) (hg2 : Gl X x := by rfl) (hn : x ≠ "__name__" := by decide) (hdb : (x == ("__debug__" : Str)) = false := by decide)
    (h1 : starEach [e, .Name x p2] X.env = (false, eval e X.env) :: starEach [.Name x p2] X.env := by rfl) (h2 : starEach [.Name x p2] X.env = (false, eval (.Name x p2) X.env) :: starEach [] X.env := by rfl) (hpl : (backTo pos (starEach [.Name x p2] X.env)).any (·.1) = false := by rfl) :
    EV X (.Call (.Name "isinstance" p) [e, .Name x p2] [] pos) (fIsi T fe) := by
  refine weakE (pe_callB call_isi hg hm PyProof.Rows.boot_isinstance (pa_cons he (pa_cons (pe_bltn (v := .ty T) hg2 hm2 hv rfl hn hdb) pa_nil h2) h1) (by decide) (by decide) h1 hpl) fun σ H Q h => ?_
  obtain ⟨Hb, O, Hs, ρ, R, rl, hf, k⟩ := h
  refine ⟨Hb, O, Hs, ρ, _, rl, hf, fun v H1 Hs1 d ρ1 s1 r1 hd q1 => ?_⟩
  split at q1
  · rename_i b hb
    cases ht : d.tyName with
    | none => unfold isiD at hb; rw [ht] at hb; cases hb
    | some t =>
      exact ⟨v, .ty T, .type t, .type T, b, rfl, .ty T, tyx_of r1.sub hd ht, kit_isi hT ht hb, k _ H1 Hs1 _ ρ1 s1 r1 (.bl _) q1⟩
  · exact q1.elim
end
end PD

namespace PD
open PySem PySem.Spec L2

/-! ### what a for or a comprehension walks -/
section
variable {X : Cx} {pos p : Pos} {tg e : Expr} {fe fa fb : FE}
/-- a list; a tuple -/
def iLst (fe : FE) : FA := fun ρ R => fe ρ fun d ρ1 => match d with
  | .lst ds => R ds ρ1
  | _ => False
def iTup (fe : FE) : FA := fun ρ R => fe ρ fun d ρ1 => match d with
  | .tup ds => R ds ρ1
  | _ => False
theorem iv_list (he : EV X e fe) : IV X tg e (iLst fe) := by
  refine weakI (pi_list he) fun σ H R h => ?_
  obtain ⟨Hb, O, Hs, ρ, S, rl, hf, k⟩ := h
  refine ⟨Hb, O, Hs, ρ, _, rl, hf, fun v H1 Hs1 d ρ1 s1 r1 h1 q1 => ?_⟩
  split at q1
  · rename_i ds
    cases h1 with
    | @lst a xs _ h1 h2 =>
      refine ⟨a, rfl, ⟨xs, SqL.of (r1.sub _ _ h1)⟩, k _ H1 Hs1 ds ρ1 s1 r1 ?_ q1⟩
      refine ⟨_, _, by rw [← h2.length]; exact walk_list, fun Hs H s1 s2 => SqL.of (s2 _ _ (s1 _ _ h1)), ?_⟩
      rintro i Hs H x H' s1 s2 hi ⟨rfl, hx⟩
      obtain ⟨d, hd, hv⟩ := h2.getV i hx
      exact ⟨d, Hs, hd, Ext.refl s2, hv.mono s1⟩
  · exact q1.elim
theorem iv_tup (he : EV X e fe) : IV X tg e (iTup fe) := by
  refine weakI (pi_tup he) fun σ H R h => ?_
  obtain ⟨Hb, O, Hs, ρ, S, rl, hf, k⟩ := h
  refine ⟨Hb, O, Hs, ρ, _, rl, hf, fun v H1 Hs1 d ρ1 s1 r1 h1 q1 => ?_⟩
  split at q1
  · rename_i ds
    cases h1 with
    | @tup a xs _ h1 h2 =>
      refine ⟨a, rfl, ⟨xs, sqT_mono r1.sub h1⟩, k _ H1 Hs1 ds ρ1 s1 r1 ?_ q1⟩
      refine ⟨_, _, by rw [← h2.length]; exact walk_tup, fun Hs H s1 s2 => sqT_mono s2 (sqT_mono s1 h1), ?_⟩
      rintro i Hs H x H' s1 s2 hi ⟨rfl, hx⟩
      obtain ⟨d, hd, hv⟩ := h2.getV i hx
      exact ⟨d, Hs, hd, Ext.refl s2, hv.mono s1⟩
  · exact q1.elim
/-- a range -/
def rgD (lo : Int) (n : Nat) : List D := (List.range n).map fun i => D.int (lo + (i : Nat))
theorem rgD_len (lo : Int) (n : Nat) : (rgD lo n).length = n := by unfold rgD; rw [List.length_map, List.length_range]
theorem rgD_at {lo : Int} {n i : Nat} (h : i < n) : (rgD lo n)[i]? = some (.int (lo + (i : Nat))) := by
  unfold rgD
  rw [List.getElem?_map, List.getElem?_range h]
  rfl
theorem iters_range {K : PySem.W.Frag} {H : Hp} (lo : Int) (n : Nat) : Iters K (Itr lo n) (rgD lo n) H := by
  refine ⟨_, _, by rw [rgD_len]; exact walk_range, fun _ _ _ _ => trivial, ?_⟩
  rintro i Hs H x H' s1 s2 hi ⟨rfl, rfl⟩
  rw [rgD_len] at hi
  exact ⟨_, Hs, rgD_at hi, Ext.refl s2, .int _⟩
def RgOk (j : Int) : Prop := -(2 ^ 62) ≤ j ∧ j < 2 ^ 62
theorem RgOk.of {j : Int} (h : -4611686018427387904 ≤ j) (h' : j < 4611686018427387904) : RgOk j := ⟨h, h'⟩
def iRg1 (fa : FE) : FA := fun ρ R => fa ρ fun d ρ1 => match d with
  | .int j => RgOk j ∧ R (rgD 0 j.toNat) ρ1
  | _ => False
def iRg2 (fa fb : FE) : FA := fun ρ R => fa ρ fun d ρ1 => fb ρ1 fun e ρ2 => match d, e with
  | .int i, .int j => RgOk i ∧ RgOk j ∧ R (rgD i (j - i).toNat) ρ2
  | _, _ => False
theorem iv_range1 (hm : X.mg "range" = none) (ha : EV X e fa) (hg : Gl X "range" := by rfl) (hs : starEach [e] X.env = [(false, eval e X.env)] := by rfl) : IV X tg (.Call (.Name "range" p) [e] [] pos) (iRg1 fa) := by
  refine weakI (pi_range1 hg hm (pa_cons ha pa_nil (by rw [hs]; rfl)) hs) fun σ H R h => ?_
  obtain ⟨Hb, O, Hs, ρ, S, rl, hf, k⟩ := h
  refine ⟨Hb, O, Hs, ρ, _, rl, hf, fun v H1 Hs1 d ρ1 s1 r1 h1 q1 => ?_⟩
  split at q1
  · cases h1
    exact ⟨_, rfl, q1.1.1, q1.1.2, k _ H1 Hs1 _ ρ1 s1 r1 (iters_range _ _) q1.2⟩
  · exact q1.elim
theorem iv_range2 {e2 : Expr} (hm : X.mg "range" = none) (ha : EV X e fa) (hb : EV X e2 fb) (hg : Gl X "range" := by rfl) (hs : starEach [e, e2] X.env = [(false, eval e X.env), (false, eval e2 X.env)] := by rfl) (hs2 : starEach [e2] X.env = [(false, eval e2 X.env)] := by rfl) : IV X tg (.Call (.Name "range" p) [e, e2] [] pos) (iRg2 fa fb) := by
  refine weakI (pi_range2 hg hm (pa_cons ha (pa_cons hb pa_nil (by rw [hs2]; rfl)) (by rw [hs, hs2])) hs hs2) fun σ H R h => ?_
  obtain ⟨Hb, O, Hs, ρ, S, rl, hf, k⟩ := h
  refine ⟨Hb, O, Hs, ρ, _, rl, hf, fun v H1 Hs1 d ρ1 s1 r1 h1 q1 => ⟨Hb, O, Hs1, ρ1, _, r1, q1, fun w H2 Hs2 d2 ρ2 s2 r2 h2 q2 => ?_⟩⟩
  split at q2
  · cases h1
    cases h2
    obtain ⟨a, b, q2⟩ := q2
    exact ⟨_, _, rfl, ⟨a.1, a.2, b.1, b.2⟩, k _ H2 Hs2 _ ρ2 (s1.trans s2) r2 (iters_range _ _) q2⟩
  · exact q2.elim
end

/-! ### comprehensions -/
def wipeC (ρ : Cs) : List Nat → Cs
  | [] => ρ
  | v :: vs => (wipeC ρ vs).set v .un
def keepC : Option Cell → Cell
  | some (.sh d) => .sh d
  | _ => .un
def restoreC (ρ ρ' : Cs) : List Nat → Cs
  | [] => ρ'
  | v :: vs => (restoreC ρ ρ' vs).set v (keepC ρ[v]?)
theorem setq {α : Type} (l : List α) (i j : Nat) (x : α) : (l.set i x)[j]? = if j = i then (l[j]?).map (fun _ => x) else l[j]? := by
  by_cases h : j = i
  · subst h
    rw [if_pos rfl]
    by_cases hl : j < l.length
    · rw [List.getElem?_set_self hl, List.getElem?_eq_getElem hl]; rfl
    · rw [List.getElem?_eq_none (by rw [List.length_set]; omega), List.getElem?_eq_none (by omega)]; rfl
  · rw [if_neg h, List.getElem?_set_ne (Ne.symm h)]
theorem wipe_get (σ : L2.St) : ∀ (vs : List Nat) (j : Nat), (wipe σ vs)[j]? = if j ∈ vs then (σ[j]?).map (fun _ => none) else σ[j]?
  | [], j => by simp [wipe]
  | v :: vs, j => by
    unfold wipe
    rw [setq, wipe_get σ vs j]
    by_cases h : j = v
    · subst h
      rw [if_pos rfl, if_pos (List.mem_cons_self)]
      split
      · rw [Option.map_map]; rfl
      · rfl
    · rw [if_neg h]
      by_cases hm : j ∈ vs
      · rw [if_pos hm, if_pos (List.mem_cons_of_mem _ hm)]
      · rw [if_neg hm, if_neg (by simp [h, hm])]
theorem wipeC_get (ρ : Cs) : ∀ (vs : List Nat) (j : Nat), (wipeC ρ vs)[j]? = if j ∈ vs then (ρ[j]?).map (fun _ => Cell.un) else ρ[j]?
  | [], j => by simp [wipeC]
  | v :: vs, j => by
    unfold wipeC
    rw [setq, wipeC_get ρ vs j]
    by_cases h : j = v
    · subst h
      rw [if_pos rfl, if_pos (List.mem_cons_self)]
      split
      · rw [Option.map_map]; rfl
      · rfl
    · rw [if_neg h]
      by_cases hm : j ∈ vs
      · rw [if_pos hm, if_pos (List.mem_cons_of_mem _ hm)]
      · rw [if_neg hm, if_neg (by simp [h, hm])]
theorem restoreC_get (ρ ρ' : Cs) : ∀ (vs : List Nat) (j : Nat), (restoreC ρ ρ' vs)[j]? = if j ∈ vs then (ρ'[j]?).map (fun _ => keepC ρ[j]?) else ρ'[j]?
  | [], j => by simp [restoreC]
  | v :: vs, j => by
    unfold restoreC
    rw [setq, restoreC_get ρ ρ' vs j]
    by_cases h : j = v
    · subst h
      rw [if_pos rfl, if_pos (List.mem_cons_self)]
      split
      · rw [Option.map_map]; rfl
      · rfl
    · rw [if_neg h]
      by_cases hm : j ∈ vs
      · rw [if_pos hm, if_pos (List.mem_cons_of_mem _ hm)]
      · rw [if_neg hm, if_neg (by simp [h, hm])]
theorem wipeC_length (ρ : Cs) : ∀ vs : List Nat, (wipeC ρ vs).length = ρ.length
  | [] => rfl
  | v :: vs => by unfold wipeC; rw [List.length_set, wipeC_length ρ vs]
theorem restoreC_length (ρ ρ' : Cs) : ∀ vs : List Nat, (restoreC ρ ρ' vs).length = ρ'.length
  | [] => rfl
  | v :: vs => by unfold restoreC; rw [List.length_set, restoreC_length ρ ρ' vs]
theorem wipe_wipe (σ : L2.St) (vs : List Nat) : wipe (wipe σ vs) vs = wipe σ vs := by
  apply List.ext_getElem?
  intro j
  rw [wipe_get, wipe_get]
  split
  · rw [Option.map_map]; rfl
  · rfl
theorem wipe_set {σ : L2.St} {vs : List Nat} {i : Nat} (x : Option V) (h : i ∈ vs) : wipe (σ.set i x) vs = wipe σ vs := by
  apply List.ext_getElem?
  intro j
  rw [wipe_get, wipe_get, setq]
  by_cases hj : j = i
  · subst hj
    rw [if_pos h, if_pos h, if_pos rfl, Option.map_map]
    rfl
  · rw [if_neg hj]
section
variable {K : PySem.W.Frag} {Hb O Hs H : Hp} {σ : L2.St} {ρ ρ' : Cs}
theorem Rel.wipe (r : Rel K Hb O Hs H σ ρ) (vs : List Nat) : Rel K Hb O Hs H (wipe σ vs) (wipeC ρ vs) := by
  induction vs with
  | nil => exact r
  | cons v vs ih => exact ih.forget none
theorem Rel.restore {Hb0 O0 Hs0 H0 : Hp} {vs : List Nat} (r0 : Rel K Hb0 O0 Hs0 H0 σ ρ) (s : Same Hs0 Hs) (r : Rel K Hb O Hs H (L2.wipe σ vs) ρ') : Rel K Hb O Hs H σ (restoreC ρ ρ' vs) := by
  have key : ∀ (i : Nat) (c : Cell), (restoreC ρ ρ' vs)[i]? = some c → (i ∈ vs ∧ c.owns = false ∧ CellOk K Hs H σ[i]? c) ∨ (i ∉ vs ∧ ρ'[i]? = some c ∧ (L2.wipe σ vs)[i]? = σ[i]?) := fun i c e => by
    rw [restoreC_get] at e
    by_cases hi : i ∈ vs
    · rw [if_pos hi] at e
      refine .inl ⟨hi, ?_⟩
      cases q : ρ'[i]? with
      | none => rw [q] at e; cases e
      | some c' =>
        rw [q] at e
        cases e
        cases z : ρ[i]? with
        | none => exact ⟨rfl, trivial⟩
        | some c0 =>
          cases c0 with
          | sh d =>
            obtain ⟨v, e1, h1⟩ := r0.var z
            exact ⟨rfl, v, e1, h1.mono s⟩
          | un => exact ⟨rfl, trivial⟩
          | ol _ => exact ⟨rfl, trivial⟩
          | pl _ _ => exact ⟨rfl, trivial⟩
          | ok _ => exact ⟨rfl, trivial⟩
          | ot _ => exact ⟨rfl, trivial⟩
    · rw [if_neg hi] at e
      exact .inr ⟨hi, e, by rw [wipe_get, if_neg hi]⟩
  refine ⟨r.base, r.sub, r.out, ?_, fun i c e => ?_, fun i c a e o t => ?_, fun i j c f a n e1 e2 o1 o2 t => ?_⟩
  · rw [restoreC_length, ← r.len, wipe_length]
  · rcases key i c e with ⟨_, _, h⟩ | ⟨_, h, z⟩
    · exact h
    · rw [← z]; exact r.ok i c h
  · rcases key i c e with ⟨_, h, _⟩ | ⟨_, h, z⟩
    · rw [o] at h; cases h
    · exact r.ow i c a h o (z.trans t)
  · rcases key i c e1 with ⟨_, h, _⟩ | ⟨_, h, z⟩
    · rw [o1] at h; cases h
    · rcases key j f e2 with ⟨_, h', _⟩ | ⟨_, h', z'⟩
      · rw [o2] at h'; cases h'
      · rw [← z']
        exact r.apart i j c f a n h h' o1 o2 (z.trans t)
end
/-- a comprehension's target: its slots alone are stored -/
def tGw (K : PySem.W.Frag) (vs : List Nat) (f : FG) : TG := fun v σ H Q => ∃ Hb O Hs ρ d R, Rel K Hb O Hs H σ ρ ∧ Dd K Hs v d ∧ f d ρ R ∧ ∀ σ' H' Hs' ρ', Same Hs Hs' → L2.wipe σ' vs = L2.wipe σ vs → Rel K Hb O Hs' H' σ' ρ' → R ρ' → Q σ' H'
def GW (X : Cx) (vs : List Nat) (tg : Expr) (f : FG) : Prop := PG X tg (tGw X.K vs f)
def tGws (K : PySem.W.Frag) (vs : List Nat) (f : FGs) : TGs := fun us σ H Q => ∃ Hb O Hs ρ ds R, Rel K Hb O Hs H σ ρ ∧ DdAll K Hs us ds ∧ f ds ρ R ∧ ∀ σ' H' Hs' ρ', Same Hs Hs' → L2.wipe σ' vs = L2.wipe σ vs → Rel K Hb O Hs' H' σ' ρ' → R ρ' → Q σ' H'
def GWs (X : Cx) (vs : List Nat) (es : List Expr) (f : FGs) : Prop := PGs X es (tGws X.K vs f)
section
variable {X : Cx} {pos : Pos} {e : Expr} {es : List Expr} {vs : List Nat}
theorem gw_name (i : Nat) {x : Str} (hN : X.N.Nodup) (hm : i ∈ vs) (hi : X.N[i]? = some x := by rfl) (hx : Loc X.env.scope x := by first | exact Or.inl rfl | exact Or.inr rfl) (hf : X.fn x = true ∨ X.env.scope.names.lookup x = some .local := by first | exact .inl rfl | exact .inr rfl) : GW X vs (.Name x pos) (gNm i) := by
  refine weakG (pg_name hN hi hx hf) fun v σ H Q h => ?_
  obtain ⟨Hb, O, Hs, ρ, d, R, r, hd, hg, k⟩ := h
  exact k _ _ _ _ (Same.refl _) (wipe_set _ hm) (r.store hd) hg
theorem gws_nil : GWs X vs [] gsNil := by
  refine ⟨fun pins s σ H us ws Q I r h => ?_⟩
  obtain ⟨Hb, O, Hs, ρ, ds, R, rl, hd, hg, k⟩ := h
  cases hd with
  | nil => exact pgs_nil.run pins s σ H [] ws Q I r ⟨rfl, k _ _ _ _ (Same.refl _) rfl rl hg⟩
  | cons _ _ => exact hg.elim
theorem gws_cons {f : FG} {fs : FGs} (h1 : GW X vs e f) (h2 : GWs X vs es fs) (hs : (assignEach (e :: es) X.env).map (·.2) = assign e X.env :: (assignEach es X.env).map (·.2) := by rfl) : GWs X vs (e :: es) (gsCons f fs) := by
  refine ⟨fun pins s σ H us ws Q I r h => ?_⟩
  refine (pgs_cons h1 h2 hs).run pins s σ H us ws Q I r ?_
  obtain ⟨Hb, O, Hs, ρ, ds, R, rl, hd, hg, k⟩ := h
  cases hd with
  | nil => exact hg.elim
  | cons a b => exact ⟨_, _, rfl, Hb, O, Hs, ρ, _, _, rl, a, hg, fun σ' H' Hs' ρ' s' w' r' q => ⟨Hb, O, Hs', ρ', _, _, r', b.mono s', q, fun σ'' H'' Hs'' ρ'' s'' w'' => k σ'' H'' Hs'' ρ'' (s'.trans s'') (w''.trans w')⟩⟩
theorem gw_tup {fs : FGs} {k n : Nat} (hc : X.calm = true) (h : GWs X vs es fs) (hn : (assignEach es X.env).length = n := by rfl) (hst : (assignEach es X.env).findIdx? (·.1) = none := by rfl) : GW X vs (.Tuple es k pos) (gTu n fs) := by
  refine weakG (pg_tup hc h hn hst) fun v σ H Q h => ?_
  obtain ⟨Hb, O, Hs, ρ, d, R, r, hd, hg, k⟩ := h
  unfold gTu at hg
  split at hg
  · rename_i ds
    split at hg
    · rename_i hl
      cases hd with
      | tup h1 h2 => exact ⟨_, _, rfl, sqT_mono r.sub h1, h2.length.trans (Nat.eq_of_beq_eq_true hl), Hb, O, Hs, ρ, ds, R, r, h2, hg, k⟩
    · exact hg.elim
  · exact hg.elim
/-- the tests of a comprehension -/
def TVs (X : Cx) (ifs : List Expr) (f : FT) : Prop := PTs X ifs (tTe X.K f)
def fYes : FT := fun ρ R => R true ρ
theorem tvs_nil : TVs X [] fYes := ⟨fun pins s σ H Q I h => by
  obtain ⟨Hb, O, Hs, ρ, R, rl, hf, k⟩ := h
  exact pts_nil.run pins s σ H Q I (k true H Hs ρ (Same.refl _) rl hf)⟩
theorem tvs_one {c : Expr} {f : FT} (h : TV X c f) : TVs X [c] f := pts_one h
/-- [elt for tg in iter if ..] -/
def fLc (fi : FA) (g : FG) (ft : FT) (fe : FE) (vs : List Nat) : FA := fun ρ R => fi ρ fun items ρ1 => items.length ≤ 1000000 ∧ ∃ Pv : Nat → List D → Cs → Prop, Pv 0 [] (wipeC ρ1 vs) ∧
  (∀ (i : Nat) (d : D) (acc : List D) (ρ : Cs), items[i]? = some d → Pv i acc ρ → g d ρ fun ρ2 => ft ρ2 fun b ρ3 => if b = true then fe ρ3 fun y ρ4 => Pv (i + 1) (acc ++ [y]) (wipeC ρ4 vs) else Pv (i + 1) acc (wipeC ρ3 vs)) ∧
  ∀ acc ρ, Pv items.length acc ρ → R acc (restoreC ρ1 ρ vs)
theorem lv_lc {elt tg iter : Expr} {ifs : List Expr} {scope : Scope} {own : List (Str × Nat)} {fi : FA} {g : FG} {ft : FT} {fe : FE} (hc : X.calm = true) (hN : X.N.Nodup) (hi : IV X tg iter fi) (ok : BlkOk X.N X.env.scope scope own)
    (hg : ∀ (s : Shared) (H : Hp) (C : Addr) (cl : List (Str × Addr)) (fp : List Addr), GW (X.blk s H scope (compEnvC scope cl C X.env) fp) (own.map (·.2)) tg g)
    (ht : ∀ (s : Shared) (H : Hp) (C : Addr) (cl : List (Str × Addr)) (fp : List Addr), TVs (X.blk s H scope (compEnvC scope cl C X.env) fp) ifs ft)
    (he : ∀ (s : Shared) (H : Hp) (C : Addr) (cl : List (Str × Addr)) (fp : List Addr), EV (X.blk s H scope (compEnvC scope cl C X.env) fp) elt fe) (hs : ∀ x, foldedSetIterable iter X.env x = pure x := by intro _; rfl) :
    LV X (.ListComp elt [⟨tg, iter, ifs, 0⟩] scope pos) (fLc fi g ft fe (own.map (·.2))) := by
  refine weakE (pe_lc (own := own) (g := tGw X.K (own.map fun (p : Str × Nat) => p.2) g) (tt := tTe X.K ft) (te := tE X.K fe) hc hN hi ok hg ht he hs) fun σ H Q h => ?_
  obtain ⟨Hb, O, Hs, ρ, R, rl, hf, k⟩ := h
  refine ⟨Hb, O, Hs, ρ, _, rl, hf, fun J H1 Hs1 items ρ1 s1 r1 it q1 => ?_⟩
  obtain ⟨hlen, Pv, p0, step, fin⟩ := q1
  obtain ⟨G, Y, wk, gG, gY⟩ := it
  intro D hD
  obtain ⟨r2, hO⟩ := (r1.rebase (Same.refl Hs1)).lay (o := .lst []) hD
  refine lc_it wk (fun i H => i ≤ items.length ∧ ∃ Hs acc ds ρ, Rel X.K Hs1 (upd O D (.lst acc)) Hs H (wipe σ (own.map (·.2))) ρ ∧ DdAll X.K Hs acc ds ∧ acc.length ≤ i ∧ Pv i ds ρ) ⟨Nat.zero_le _, Hs1, [], [], _, r2.wipe _, .nil, Nat.le_refl _, p0⟩
    (fun i H _ ⟨_, Hs, acc, ds, ρ, r, _⟩ => gG Hs H r.base r.sub) ?_ ?_
  · rintro i x H H' hi ⟨_, Hs, acc, ds, ρ, r, ha, hl, p⟩ y
    obtain ⟨d, Hs', ed, ex, hd⟩ := gY i Hs H x H' r.base r.sub hi y
    refine ⟨Hs1, _, Hs', ρ, d, _, r.ext ex, hd, step i d ds ρ ed p, fun σ2 H2 Hs2 ρ2 s2 w2 r2 q2 => ⟨w2.trans (wipe_wipe _ _), ?_⟩⟩
    have w2 : wipe σ2 (own.map (·.2)) = wipe σ (own.map (·.2)) := w2.trans (wipe_wipe _ _)
    refine ⟨Hs1, _, Hs2, ρ2, _, r2, q2, fun b H3 Hs3 ρ3 s3 r3 q3 => ?_⟩
    cases b with
    | false =>
      rw [if_neg Bool.false_ne_true] at q3 ⊢
      have r4 := r3.wipe (own.map (·.2))
      rw [w2] at r4
      exact ⟨hi, Hs3, acc, ds, _, r4, ((ha.mono ex.sh).mono s2).mono s3, by omega, q3⟩
    | true =>
      rw [if_pos rfl] at q3 ⊢
      refine ⟨Hs1, _, Hs3, ρ3, _, r3, q3, fun y H4 Hs4 dy ρ4 s4 r4 h4 q4 => ?_⟩
      refine ⟨acc, (r4.out D _ upd_same).2, small_line' (by omega), hi, Hs4, acc ++ [y], ds ++ [dy], _, ?_, ((((ha.mono ex.sh).mono s2).mono s3).mono s4).append (.cons h4 .nil), by rw [List.length_append, List.length_singleton]; omega, q4⟩
      have r5 := (r4.turn (u := .lst (acc ++ [y])) hO).wipe (own.map (·.2))
      rw [w2] at r5
      exact r5
  · rintro H ⟨_, Hs, acc, ds, ρ, r, ha, _, p⟩
    have rr := Rel.restore r1 r.base r
    exact k D acc H Hs ds _ (s1.trans r.base) (rr.rebase (r1.base.trans r.base)) hO ha (fin ds ρ p)
end
end PD

namespace PD
open PySem PySem.Spec L2

theorem wipe_sub {σ : L2.St} {vs ws : List Nat} (h : ∀ i ∈ ws, i ∈ vs) : wipe (wipe σ ws) vs = wipe σ vs := by
  apply List.ext_getElem?
  intro j
  rw [wipe_get, wipe_get, wipe_get]
  by_cases hj : j ∈ vs
  · rw [if_pos hj, if_pos hj]
    split
    · rw [Option.map_map]; rfl
    · rfl
  · rw [if_neg hj, if_neg hj, if_neg (fun z => hj (h j z))]
/-- the inner loop of a comprehension -/
theorem walk_w {J : It} {n : Nat} {G : Hp → Prop} {Y : Nat → Hp → V → Hp → Prop} (w : Walk J n G Y) {B : V → Hp → (Hp → Prop) → Prop} {H : Hp} {N : Hp → Prop} (Pv : Nat → Hp → Prop) (h0 : Pv 0 H) (hG : ∀ i H, i ≤ n → Pv i H → G H)
    (hs : ∀ i x H H', i < n → Pv i H → Y i H x H' → B x H' (Pv (i + 1))) (hd : ∀ H, Pv n H → N H) :
    ∃ W : Nat → Nat → Hp → Prop, (∃ m, W 0 m H) ∧ ∀ j k H, W j k H → (J.stop j H ∧ N H) ∨ (J.go j H ∧ ∃ Nx1 : Hp → Prop, (∀ H', Nx1 H' → ∃ k', k' < k ∧ W (j + 1) k' H') ∧ ∀ x H', J.yld j H x H' → B x H' Nx1) := by
  refine ⟨fun j k H => k + j = n ∧ Pv j H, ⟨n, rfl, h0⟩, fun j k H ⟨e, p⟩ => ?_⟩
  by_cases hk : k = 0
  · subst hk
    have ej : j = n := by omega
    subst ej
    exact .inl ⟨w.stops H (hG _ H (Nat.le_refl _) p), hd H p⟩
  · have hj : j < n := by omega
    have g := hG j H (Nat.le_of_lt hj) p
    exact .inr ⟨w.goes j H hj g, Pv (j + 1), fun H' p' => ⟨k - 1, by omega, by omega, p'⟩, fun x H' y => hs j x H H' hj p (w.yields j H x H' hj g y)⟩
section
variable {X : Cx} {pos : Pos}
/-- [elt for tg in iter if .. for tg1 in iter1 if ..] -/
def fLc2 (fi : FA) (g : FG) (ft : FT) (fi1 : FA) (g1 : FG) (ft1 : FT) (fe : FE) (vs vs1 : List Nat) : FA := fun ρ R => fi ρ fun items ρ1 => ∃ Pv : Nat → List D → Cs → Prop, Pv 0 [] (wipeC ρ1 vs) ∧
  (∀ (i : Nat) (d : D) (acc : List D) (ρ : Cs), items[i]? = some d → Pv i acc ρ → g d ρ fun ρ2 => ft ρ2 fun b ρ3 => if b = true then fi1 ρ3 fun items1 ρ4 => ∃ Qv : Nat → List D → Cs → Prop, Qv 0 acc (wipeC ρ4 vs1) ∧
    (∀ (j : Nat) (d : D) (acc : List D) (ρ : Cs), items1[j]? = some d → Qv j acc ρ → acc.length ≤ 1000000 ∧ g1 d ρ fun ρ5 => ft1 ρ5 fun b ρ6 => if b = true then fe ρ6 fun y ρ7 => Qv (j + 1) (acc ++ [y]) (wipeC ρ7 vs1) else Qv (j + 1) acc (wipeC ρ6 vs1)) ∧
    ∀ acc ρ, Qv items1.length acc ρ → Pv (i + 1) acc (wipeC ρ vs) else Pv (i + 1) acc (wipeC ρ3 vs)) ∧
  ∀ acc ρ, Pv items.length acc ρ → R acc (restoreC ρ1 ρ vs)
theorem lv_lc2 {elt tg iter tg1 iter1 : Expr} {ifs ifs1 : List Expr} {scope : Scope} {own : List (Str × Nat)} {vs1 : List Nat} {fi fi1 : FA} {g g1 : FG} {ft ft1 : FT} {fe : FE}
    (hp : PE X (.ListComp elt [⟨tg, iter, ifs, 0⟩, ⟨tg1, iter1, ifs1, 0⟩] scope pos) (tLc2 (tIt X.K fi) (tGw X.K (own.map fun (p : Str × Nat) => p.2) g) (tTe X.K ft) (tIt X.K fi1) (tGw X.K vs1 g1) (tTe X.K ft1) (tE X.K fe) (own.map fun (p : Str × Nat) => p.2) vs1))
    (hv : ∀ i ∈ vs1, i ∈ own.map fun (p : Str × Nat) => p.2) : LV X (.ListComp elt [⟨tg, iter, ifs, 0⟩, ⟨tg1, iter1, ifs1, 0⟩] scope pos) (fLc2 fi g ft fi1 g1 ft1 fe (own.map fun (p : Str × Nat) => p.2) vs1) := by
  generalize (own.map fun (p : Str × Nat) => p.2) = vs at hp hv ⊢
  refine weakE hp fun σ H Q h => ?_
  obtain ⟨Hb, O, Hs, ρ, R, rl, hf, k⟩ := h
  refine ⟨Hb, O, Hs, ρ, _, rl, hf, fun J H1 Hs1 items ρ1 s1 r1 it q1 => ?_⟩
  obtain ⟨Pv, p0, step, fin⟩ := q1
  obtain ⟨G, Y, wk, gG, gY⟩ := it
  intro D hD
  obtain ⟨r2, hO⟩ := (r1.rebase (Same.refl Hs1)).lay (o := .lst []) hD
  have st : ∃ Hs acc ds ρ, Rel X.K Hs1 (upd O D (.lst acc)) Hs (upd H1 D (.lst [])) (wipe σ vs) ρ ∧ DdAll X.K Hs acc ds ∧ Pv 0 ds ρ := ⟨Hs1, [], [], _, r2.wipe _, .nil, p0⟩
  refine walk_w wk (H := upd H1 D (.lst [])) (B := fun x H' Nx => tGw X.K vs g x (wipe σ vs) H' fun σ2 H2 => wipe σ2 vs = wipe σ vs ∧ tTe X.K ft σ2 H2 fun b H3 =>
    if b = true then tIt X.K fi1 σ2 H3 fun J1 H4 => ∃ W1 : Nat → Nat → Hp → Prop, (∃ m, W1 0 m H4) ∧ ∀ j k H, W1 j k H →
      (J1.stop j H ∧ Nx H) ∨ (J1.go j H ∧ ∃ Nx1 : Hp → Prop, (∀ H', Nx1 H' → ∃ k', k' < k ∧ W1 (j + 1) k' H') ∧ ∀ x H', J1.yld j H x H' → tGw X.K vs1 g1 x (wipe σ2 vs1) H' fun σ3 H5 => wipe σ3 vs1 = wipe σ2 vs1 ∧ tTe X.K ft1 σ3 H5 fun b H6 =>
        if b = true then tE X.K fe σ3 H6 fun y H7 => ∃ acc, H7 D = some (.lst acc) ∧ acc.length < sizeLine ∧ Nx1 (upd H7 D (.lst (acc ++ [y]))) else Nx1 H6)
    else Nx H3) (fun i H => ∃ Hs acc ds ρ, Rel X.K Hs1 (upd O D (.lst acc)) Hs H (wipe σ vs) ρ ∧ DdAll X.K Hs acc ds ∧ Pv i ds ρ) st (fun i H _ ⟨Hs, acc, ds, ρ, r, _⟩ => gG Hs H r.base r.sub) ?_ ?_
  · rintro i x H H' hi ⟨Hs, acc, ds, ρ, r, ha, p⟩ y
    obtain ⟨d, Hs', ed, ex, hd⟩ := gY i Hs H x H' r.base r.sub hi y
    refine ⟨Hs1, _, Hs', ρ, d, _, r.ext ex, hd, step i d ds ρ ed p, fun σ2 H2 Hs2 ρ2 s2 w2 r2 q2 => ⟨w2.trans (wipe_wipe _ _), ?_⟩⟩
    have w2 : wipe σ2 vs = wipe σ vs := w2.trans (wipe_wipe _ _)
    refine ⟨Hs1, _, Hs2, ρ2, _, r2, q2, fun b H3 Hs3 ρ3 s3 r3 q3 => ?_⟩
    cases b with
    | false =>
      rw [if_neg Bool.false_ne_true] at q3 ⊢
      have r4 := r3.wipe vs
      rw [w2] at r4
      exact ⟨Hs3, acc, ds, _, r4, ((ha.mono ex.sh).mono s2).mono s3, q3⟩
    | true =>
      rw [if_pos rfl] at q3 ⊢
      refine ⟨Hs1, _, Hs3, ρ3, _, r3, q3, fun J1 H4 Hs4 items1 ρ4 s4 r4 it1 q4 => ?_⟩
      obtain ⟨Qv, q0, step1, fin1⟩ := q4
      obtain ⟨G1, Y1, wk1, gG1, gY1⟩ := it1
      have ha4 := (((ha.mono ex.sh).mono s2).mono s3).mono s4
      refine walk_w wk1 (B := fun x H' Nx1 => tGw X.K vs1 g1 x (wipe σ2 vs1) H' fun σ3 H5 => wipe σ3 vs1 = wipe σ2 vs1 ∧ tTe X.K ft1 σ3 H5 fun b H6 =>
        if b = true then tE X.K fe σ3 H6 fun y H7 => ∃ acc, H7 D = some (.lst acc) ∧ acc.length < sizeLine ∧ Nx1 (upd H7 D (.lst (acc ++ [y]))) else Nx1 H6)
        (fun j H => ∃ Hs acc ds ρ, Rel X.K Hs1 (upd O D (.lst acc)) Hs H (wipe σ2 vs1) ρ ∧ Same Hs4 Hs ∧ DdAll X.K Hs acc ds ∧ Qv j ds ρ) ⟨Hs4, acc, ds, _, r4.wipe vs1, Same.refl _, ha4, q0⟩ (fun i H _ ⟨Hs, acc, ds, ρ, r, sm, _⟩ => gG1 Hs H sm r.sub) ?_ ?_
      · rintro j z H5 H6 hj ⟨Hs5, acc5, ds5, ρ5, r5, sm, ha5, p5⟩ y5
        obtain ⟨d5, Hs6, ed5, ex5, hd5⟩ := gY1 j Hs5 H5 z H6 sm r5.sub hj y5
        obtain ⟨hlen, st5⟩ := step1 j d5 ds5 ρ5 ed5 p5
        refine ⟨Hs1, _, Hs6, ρ5, d5, _, r5.ext ex5, hd5, st5, fun σ7 H7 Hs7 ρ7 s7 w7 r7 q7 => ⟨w7.trans (wipe_wipe _ _), ?_⟩⟩
        have w7 : wipe σ7 vs1 = wipe σ2 vs1 := w7.trans (wipe_wipe _ _)
        refine ⟨Hs1, _, Hs7, ρ7, _, r7, q7, fun b H8 Hs8 ρ8 s8 r8 q8 => ?_⟩
        cases b with
        | false =>
          rw [if_neg Bool.false_ne_true] at q8 ⊢
          have r9 := r8.wipe vs1
          rw [w7] at r9
          exact ⟨Hs8, acc5, ds5, _, r9, sm.trans (ex5.sh.trans (s7.trans s8)), ((ha5.mono ex5.sh).mono s7).mono s8, q8⟩
        | true =>
          rw [if_pos rfl] at q8 ⊢
          refine ⟨Hs1, _, Hs8, ρ8, _, r8, q8, fun y H9 Hs9 dy ρ9 s9 r9 h9 q9 => ?_⟩
          refine ⟨acc5, (r9.out D _ upd_same).2, small_line' (by rw [ha5.length]; exact hlen), Hs9, acc5 ++ [y], ds5 ++ [dy], _, ?_, sm.trans (ex5.sh.trans (s7.trans (s8.trans s9))), ((((ha5.mono ex5.sh).mono s7).mono s8).mono s9).append (.cons h9 .nil), q9⟩
          have r10 := (r9.turn (u := .lst (acc5 ++ [y])) hO).wipe vs1
          rw [w7] at r10
          exact r10
      · rintro H5 ⟨Hs5, acc5, ds5, ρ5, r5, sm, ha5, p5⟩
        have r6 := r5.wipe vs
        rw [wipe_sub hv, w2] at r6
        exact ⟨Hs5, acc5, ds5, _, r6, ha5, fin1 ds5 ρ5 p5⟩
  · rintro H ⟨Hs, acc, ds, ρ, r, ha, p⟩
    have rr := Rel.restore r1 r.base r
    exact k D acc H Hs ds _ (s1.trans r.base) (rr.rebase (r1.base.trans r.base)) hO ha (fin ds ρ p)
end
end PD

namespace PD
open PySem PySem.Spec L2

/-! ### lists put together, cut -/
def gCat : D → D → (List D → Prop) → Prop := fun d e P => match d, e with
  | .lst xs, .lst ys => xs.length + ys.length ≤ 1000000 ∧ P (xs ++ ys)
  | _, _ => False
def fCat (fa fb : FE) : FA := fun ρ R => fa ρ fun d ρ1 => fb ρ1 fun e ρ2 => gCat d e fun z => R z ρ2
section
variable {X : Cx} {pos : Pos} {a b : Expr} {fa fb : FE}
theorem lv_cat (ha : EV X a fa) (hb : EV X b fb) : LV X (.BinOp a .Add b pos) (fCat fa fb) := by
  refine weakE (pe_op op_cat ha hb) fun σ H Q h => ?_
  obtain ⟨Hb, O, Hs, ρ, R, rl, hf, k⟩ := h
  refine ⟨Hb, O, Hs, ρ, _, rl, hf, fun v H1 Hs1 d ρ1 s1 r1 h1 q1 => ⟨Hb, O, Hs1, ρ1, _, r1, q1, fun w H2 Hs2 e ρ2 s2 r2 h2 q2 => ?_⟩⟩
  unfold gCat at q2
  split at q2
  · have h1 := h1.mono s2
    cases h1 with
    | @lst l xs ds e1 t1 =>
      cases h2 with
      | @lst l2 ys es e2 t2 =>
        refine ⟨l, l2, xs, ys, rfl, rfl, r2.sub _ _ e1, r2.sub _ _ e2, small_line (by rw [t1.length, t2.length]; exact q2.1), fun p hp => ?_⟩
        obtain ⟨r3, hO⟩ := r2.lay (o := .lst (xs ++ ys)) hp
        exact k p _ _ _ _ ρ2 (s1.trans s2) r3 hO (t1.append t2) q2.2
  · exact q2.elim
/-- (..) + (..) -/
def gCatT : D → D → (D → Prop) → Prop := fun d e P => match d, e with
  | .tup (x :: xs), .tup ys => (x :: xs).length + ys.length ≤ 1000000 ∧ P (.tup (x :: xs ++ ys))
  | _, _ => False
theorem od_catT : OpD X.K (rCatT X.K) gCatT := by
  intro Hs H x y d e Q P s hx hy q k
  unfold gCatT at q
  split at q
  · cases hx with
    | @tup a xs _ h1 t1 =>
      cases hy with
      | @tup b ys _ h2 t2 =>
        refine ⟨a, b, xs, ys, rfl, rfl, sqT_mono s h1, sqT_mono s h2, ?_, small_line (by rw [t1.length, t2.length]; exact q.1), fun z => ?_, fun _ p hp => ?_⟩
        · intro z
          subst z
          cases t1
        · subst z
          cases t2
          exact k _ H Hs _ (Ext.refl s) (.tup h1 t1) (by rw [List.append_nil] at q; exact q.2)
        · have x := Ext.new (o := .tup (xs ++ ys)) s hp
          exact k _ _ _ _ x (.tup (.inl (.inl upd_same)) ((t1.append t2).mono x.sh)) q.2
  · exact q.elim
theorem ev_catT (ha : EV X a fa) (hb : EV X b fb) : EV X (.BinOp a .Add b pos) (fOp gCatT fa fb) := ev_op op_catT od_catT ha hb
/-! slices -/
abbrev FO := Cs → (Option Int → Cs → Prop) → Prop
def tOp' (K : PySem.W.Frag) (f : FO) : TO := fun σ H Q => ∃ Hb O Hs ρ R, Rel K Hb O Hs H σ ρ ∧ f ρ R ∧ ∀ o H' Hs' ρ', Same Hs Hs' → Rel K Hb O Hs' H' σ ρ' → R o ρ' → Q o H'
def OV (X : Cx) (e : Option Expr) (f : FO) : Prop := PO X e (tOp' X.K f)
def oNone : FO := fun ρ R => R none ρ
def oSome (f : FE) : FO := fun ρ R => f ρ fun d ρ1 => match d with
  | .int i => R (some i) ρ1
  | _ => False
theorem ov_none : OV X none oNone := ⟨fun pins s σ H Q I h => by
  obtain ⟨Hb, O, Hs, ρ, R, rl, hf, k⟩ := h
  exact po_none.run pins s σ H Q I (k none H Hs ρ (Same.refl _) rl hf)⟩
theorem ov_some {f : FE} {e : Expr} (h : EV X e f) : OV X (some e) (oSome f) := ⟨fun pins s σ H Q I hh => by
  obtain ⟨Hb, O, Hs, ρ, R, rl, hf, k⟩ := hh
  refine (po_some h).run pins s σ H Q I ⟨Hb, O, Hs, ρ, _, rl, hf, fun v H1 Hs1 d ρ1 s1 r1 h1 q1 => ?_⟩
  split at q1
  · cases h1
    exact ⟨_, rfl, k _ H1 Hs1 ρ1 s1 r1 q1⟩
  · exact q1.elim⟩
def cutD (xs : List D) (lo hi : Option Int) : List D := (xs.drop (HT.sIx xs.length 0 lo)).take (HT.sIx xs.length xs.length hi - HT.sIx xs.length 0 lo)
theorem cut_dd {K : PySem.W.Frag} {H : Hp} {vs : List V} {ds : List D} (h : DdAll K H vs ds) (lo hi : Option Int) : DdAll K H (cutV vs lo hi) (cutD ds lo hi) := by
  unfold cutV cutD
  rw [h.length]
  exact (h.drop _).take _
def fSl (fa : FE) (fl fh : FO) : FA := fun ρ R => fa ρ fun d ρ1 => fl ρ1 fun l ρ2 => fh ρ2 fun h ρ3 => match d with
  | .lst ds => R (cutD ds l h) ρ3
  | .scr ns => R (cutD (ns.map .int) l h) ρ3
  | _ => False
theorem lv_sl {lo hi : Option Expr} {fl fh : FO} {p2 : Pos} (ha : EV X a fa) (hl : OV X lo fl) (hh : OV X hi fh) : LV X (.Subscript a (.Slice lo hi none p2) pos) (fSl fa fl fh) := by
  refine weakE (pe_slice sl_list ha hl hh) fun σ H Q h => ?_
  obtain ⟨Hb, O, Hs, ρ, R, rl, hf, k⟩ := h
  refine ⟨Hb, O, Hs, ρ, _, rl, hf, fun v H1 Hs1 d ρ1 s1 r1 h1 q1 => ⟨Hb, O, Hs1, ρ1, _, r1, q1, fun l H2 Hs2 ρ2 s2 r2 q2 => ⟨Hb, O, Hs2, ρ2, _, r2, q2, fun u H3 Hs3 ρ3 s3 r3 q3 => ?_⟩⟩⟩
  have h3 := (h1.mono s2).mono s3
  split at q3
  · cases h3 with
    | @lst l2 xs ds e1 t1 =>
      refine ⟨_, xs, rfl, SqL.of (r3.sub _ _ e1), fun p hp => ?_⟩
      obtain ⟨r4, hO⟩ := r3.lay (o := .lst (cutV xs l u)) hp
      exact k p _ _ _ _ ρ3 ((s1.trans s2).trans s3) r4 hO (cut_dd t1 l u) q3
  · rename_i ns
    cases h3 with
    | scr h3 =>
      refine ⟨_, _, rfl, r3.sub.seq h3, fun p hp => ?_⟩
      obtain ⟨r4, hO⟩ := r3.lay (o := .lst (cutV (ns.map V.int) l u)) hp
      exact k p _ _ _ _ ρ3 ((s1.trans s2).trans s3) r4 hO (cut_dd (dd_ints ns) l u) q3
  · exact q3.elim
def fSlT (fa : FE) (fl fh : FO) : FE := fun ρ R => fa ρ fun d ρ1 => fl ρ1 fun l ρ2 => fh ρ2 fun h ρ3 => match d with
  | .tup ds => ¬ (HT.sIx ds.length 0 l = 0 ∧ HT.sIx ds.length ds.length h = ds.length) ∧ R (.tup (cutD ds l h)) ρ3
  | _ => False
theorem ev_slT {lo hi : Option Expr} {fl fh : FO} {p2 : Pos} (ha : EV X a fa) (hl : OV X lo fl) (hh : OV X hi fh) : EV X (.Subscript a (.Slice lo hi none p2) pos) (fSlT fa fl fh) := by
  refine weakE (pe_slice sl_tup ha hl hh) fun σ H Q h => ?_
  obtain ⟨Hb, O, Hs, ρ, R, rl, hf, k⟩ := h
  refine ⟨Hb, O, Hs, ρ, _, rl, hf, fun v H1 Hs1 d ρ1 s1 r1 h1 q1 => ⟨Hb, O, Hs1, ρ1, _, r1, q1, fun l H2 Hs2 ρ2 s2 r2 q2 => ⟨Hb, O, Hs2, ρ2, _, r2, q2, fun u H3 Hs3 ρ3 s3 r3 q3 => ?_⟩⟩⟩
  have h3 := (h1.mono s2).mono s3
  split at q3
  · cases h3 with
    | @tup l2 xs ds e1 t1 =>
      refine ⟨_, xs, rfl, sqT_mono r3.sub e1, by rw [t1.length]; exact q3.1, fun p hp => ?_⟩
      have x := Ext.new (o := .tup (cutV xs l u)) r3.sub hp
      exact k _ _ _ _ ρ3 (((s1.trans s2).trans s3).trans x.sh) (r3.ext x) (.tup (.inl (.inl upd_same)) ((cut_dd t1 l u).mono x.sh)) q3.2
  · exact q3.elim
end

/-! ### data as the library has it -/
mutual
def D.py : D → PyData
  | .non => .none
  | .bl b => .bool b
  | .int i => .int i
  | .str x => .str x
  | .lst xs => .list (pyAll xs)
  | .tup xs => .tuple (pyAll xs)
  | .dic _ => .none
  | .obj _ => .none
  | .scr _ => .none
def pyAll : List D → List PyData
  | [] => []
  | x :: xs => x.py :: pyAll xs
end
mutual
/-- no dict, nothing else within; numbers and signs small enough to be written -/
def D.sho : D → Prop
  | .non => True
  | .bl _ => True
  | .int i => i.natAbs.log2 < 1920
  | .str x => ∀ c ∈ x.cps.toList, c < 16 ^ 8
  | .lst xs => shoAll xs
  | .tup xs => shoAll xs
  | .dic _ => False
  | .obj _ => False
  | .scr _ => False
def shoAll : List D → Prop
  | [] => True
  | x :: xs => x.sho ∧ shoAll xs
end
mutual
def D.pl : D → Bool
  | .non => true
  | .bl _ => true
  | .int _ => true
  | .str _ => true
  | .lst xs => plAll xs
  | .tup xs => plAll xs
  | .dic _ => false
  | .obj _ => false
  | .scr _ => false
def plAll : List D → Bool
  | [] => true
  | x :: xs => x.pl && plAll xs
end
mutual
def D.blk : D → Nat
  | .str x => x.length
  | .lst xs => blkAll xs
  | .tup xs => blkAll xs
  | _ => 0
def blkAll : List D → Nat
  | [] => 0
  | x :: xs => x.blk + 1 + blkAll xs
end
mutual
def D.dp : D → Nat
  | .lst xs => dpAll xs + 1
  | .tup xs => dpAll xs + 1
  | _ => 0
def dpAll : List D → Nat
  | [] => 0
  | x :: xs => max x.dp (dpAll xs)
end
mutual
theorem sho_pl : ∀ d : D, d.sho → d.pl = true
  | .non, _ => rfl
  | .bl _, _ => rfl
  | .int _, _ => rfl
  | .str _, _ => rfl
  | .lst xs, h => shoAll_pl xs h
  | .tup xs, h => shoAll_pl xs h
  | .dic _, h => h.elim
  | .obj _, h => h.elim
  | .scr _, h => h.elim
theorem shoAll_pl : ∀ ds : List D, shoAll ds → plAll ds = true
  | [], _ => rfl
  | x :: xs, h => Bool.and_eq_true_iff.mpr ⟨sho_pl x h.1, shoAll_pl xs h.2⟩
end
mutual
theorem Dd.dp {K : PySem.W.Frag} {H : Hp} : ∀ {v : V} {d : D}, Dd K H v d → d.pl = true → Dp K H v d.py
  | _, _, .non, _ => .non
  | _, _, .bl b, _ => .bl b
  | _, _, .int i, _ => .int i
  | _, _, .str x, _ => .str x
  | _, _, .lst h a, p => .lst (SqL.of h) (DdAll.dp a p)
  | _, _, .tup h a, p => .tup h (DdAll.dp a p)
  | _, _, .dic _ _, p => nomatch p
  | _, _, .obj _, p => nomatch p
  | _, _, .scr _, p => nomatch p
theorem DdAll.dp {K : PySem.W.Frag} {H : Hp} : ∀ {v : List V} {d : List D}, DdAll K H v d → plAll d = true → DpAll K H v (pyAll d)
  | _, _, .nil, _ => .nil
  | _, _, .cons h t, p => by
    have p := Bool.and_eq_true_iff.mp (show (_ && _) = true from p)
    exact .cons (Dd.dp h p.1) (DdAll.dp t p.2)
end
mutual
theorem sho_able : ∀ d : D, d.sho → d.py.showable = true ∧ d.py.leavesShort 1921 = true ∧ d.py.hasDict = false ∧ d.py.bulk = d.blk ∧ d.py.depth = d.dp
  | .non, _ => by simp [D.py, PyData.showable, PyData.leavesShort, PyData.hasDict, PyData.bulk, PyData.depth, D.blk, D.dp]
  | .bl _, _ => by simp [D.py, PyData.showable, PyData.leavesShort, PyData.hasDict, PyData.bulk, PyData.depth, D.blk, D.dp]
  | .int i, h => by
    refine ⟨by simp only [D.py, PyData.showable, decide_eq_true_eq]; exact h, ?_, by simp [D.py, PyData.hasDict], by simp [D.py, PyData.bulk, D.blk], by simp [D.py, PyData.depth, D.dp]⟩
    have e := int_text_length_le (k := 1920) (by decide) h
    simp only [D.py, PyData.leavesShort, PyData.shown, decide_eq_true_eq]
    have q : (Str.ofString (toString i)).length ≤ 1921 := by rw [PySem.ofString_length]; exact e
    exact decide_eq_true q
  | .str x, h => by
    refine ⟨by simp [D.py, PyData.showable], ?_, by simp [D.py, PyData.hasDict], by simp only [D.py, PyData.bulk, D.blk]; rfl, by simp [D.py, PyData.depth, D.dp]⟩
    simp only [D.py, PyData.leavesShort, List.all_eq_true, decide_eq_true_eq]
    exact h
  | .lst xs, h => by
    obtain ⟨a, b, c, e, f⟩ := shoAll_able xs h
    simp only [D.py, PyData.showable, PyData.leavesShort, PyData.hasDict, PyData.bulk, PyData.depth, D.blk, D.dp]
    exact ⟨a, b, c, e, by rw [f]⟩
  | .tup xs, h => by
    obtain ⟨a, b, c, e, f⟩ := shoAll_able xs h
    simp only [D.py, PyData.showable, PyData.leavesShort, PyData.hasDict, PyData.bulk, PyData.depth, D.blk, D.dp]
    exact ⟨a, b, c, e, by rw [f]⟩
  | .dic _, h => h.elim
  | .obj _, h => h.elim
  | .scr _, h => h.elim
theorem shoAll_able : ∀ ds : List D, shoAll ds → PyData.showableAll (pyAll ds) = true ∧ PyData.leavesShortAll 1921 (pyAll ds) = true ∧ PyData.hasDictAll (pyAll ds) = false ∧ PyData.bulkAll (pyAll ds) = blkAll ds ∧ PyData.depthAll (pyAll ds) = dpAll ds
  | [], _ => by simp [pyAll, PyData.showableAll, PyData.leavesShortAll, PyData.hasDictAll, PyData.bulkAll, PyData.depthAll, blkAll, dpAll]
  | x :: xs, h => by
    obtain ⟨a, b, c, e, f⟩ := sho_able x h.1
    obtain ⟨a', b', c', e', f'⟩ := shoAll_able xs h.2
    simp only [pyAll, PyData.showableAll, PyData.leavesShortAll, PyData.hasDictAll, PyData.bulkAll, PyData.depthAll, blkAll, dpAll, a, b, c, a', b', c', e, f, e', f']
    simp
end
/-- repr -/
def D.shw (d : D) : Str := d.py.shown
theorem show_len {d : D} (h : d.sho) (hb : d.blk ≤ 8000) : d.shw.length ≤ sizeLine := by
  obtain ⟨_, b, _, e, _⟩ := sho_able d h
  have q := PyData.shown_le_bulk 1921 (by decide) d.py b
  rw [e] at q
  have s : sizeLine = 16777216 := sizeLine_eq
  show d.py.shown.length ≤ _
  omega
def gRepr : List D → (D → Prop) → Prop := fun ds P => match ds with
  | [d] => d.sho ∧ d.blk ≤ 8000 ∧ d.dp ≤ 60 ∧ P (.str d.shw)
  | _ => False
def rRepr (K : PySem.W.Frag) : List V → Hp → VK → Prop := fun xs H Q => ∃ (v : V) (d : D), xs = [v] ∧ Dd K H v d ∧ d.sho ∧ d.blk ≤ 8000 ∧ d.dp ≤ 60 ∧ Q (.str d.shw) H
section
variable {X : Cx} {pos p : Pos} {e : Expr} {es : List Expr} {fa : FA}
theorem call_repr {k : Nat} (hr : Rm k X.A) : CallR X (.builtin "repr") (rRepr X.K) := by
  intro pins s σ H xs us Q I r h
  obtain ⟨v, d, rfl, hd, hs, hb, hdp, q⟩ := h
  obtain ⟨u, rfl, ru⟩ := vals1 r
  have hl := show_len hs hb
  obtain ⟨a, _, c, _, f⟩ := sho_able d hs
  have dpp := hd.dp (sho_pl d hs)
  cases hd with
  | non =>
    cases ru
    exact PySem.P.repr_of_none ⟨.str _, H, I.tok _, ⟨_, rfl⟩, q⟩
  | bl b =>
    cases ru
    exact PySem.P.repr_of_bool ⟨.str _, H, I.tok _, ⟨_, rfl⟩, q⟩
  | int i =>
    obtain ⟨t, rfl⟩ := ru
    exact PySem.P.repr_of_int hs ⟨.str _, H, I.tok _, ⟨_, rfl⟩, q⟩
  | str x =>
    obtain ⟨t, rfl⟩ := ru
    exact PySem.P.repr_of_str ⟨.str _, H, I.tok _, ⟨_, rfl⟩, q⟩ hl
  | lst h1 h2 =>
    cases ru
    obtain ⟨as, rd⟩ := Dp.reads I _ _ _ dpp rfl
    exact repr_of_reads' rd a (PyData.noDict_hsm c) hr.none (by rw [f]; have := hr.room.units; omega) (fun _ _ z => z) (fun h' u tk hk => ⟨.str _, H, I.kept hk, ⟨u, rfl⟩, q⟩) hl
  | tup h1 h2 =>
    cases ru
    obtain ⟨as, rd⟩ := Dp.reads I _ _ _ dpp rfl
    exact repr_of_reads' rd a (PyData.noDict_hsm c) hr.none (by rw [f]; have := hr.room.units; omega) (fun _ _ z => z) (fun h' u tk hk => ⟨.str _, H, I.kept hk, ⟨u, rfl⟩, q⟩) hl
  | dic _ _ => exact hs.elim
  | obj _ => exact hs.elim
  | scr _ => exact hs.elim
theorem cd_repr : CaD X.K (rRepr X.K) gRepr := by
  intro Hs H xs ds Q P s h q k
  unfold gRepr at q
  split at q
  · obtain ⟨v, rfl, hv⟩ := one_dd h
    obtain ⟨a, b, c, q⟩ := q
    exact ⟨v, _, rfl, hv.mono s, a, b, c, k _ H Hs _ (Ext.refl s) (.str _) q⟩
  · exact q.elim
theorem ev_repr {k : Nat} (hr : Rm k X.A) (hm : X.mg "repr" = none) (ha : AV X (e :: es) fa) (hg : Gl X "repr" := by rfl) (he : starEach (e :: es) X.env = (false, eval e X.env) :: starEach es X.env := by rfl) (hpl : (backTo pos (starEach es X.env)).any (·.1) = false := by rfl) : EV X (.Call (.Name "repr" p) (e :: es) [] pos) (fCa gRepr fa) :=
  ev_blt (call_repr hr) cd_repr PyProof.Rows.boot_repr hm ha hg (by decide) (by decide) he hpl
/-! ### == of data -/
def eqD (d e : D) : Bool := PyData.eqv d.py e.py
def okEq (d e : D) : Bool := d.pl && (e.pl && (SeqAt.shaped d.py && SeqAt.shaped e.py))
def gEqD : D → D → (D → Prop) → Prop := fun d e P => okEq d e = true ∧ P (.bl (eqD d e))
def gNeD : D → D → (D → Prop) → Prop := fun d e P => okEq d e = true ∧ P (.bl (!eqD d e))
theorem od_eqD : OpD X.K (rEqD X.K) gEqD := by
  intro Hs H x y d e Q P s hx hy q k
  obtain ⟨c, q⟩ := q
  obtain ⟨c1, c⟩ := Bool.and_eq_true_iff.mp c
  obtain ⟨c2, c⟩ := Bool.and_eq_true_iff.mp c
  obtain ⟨c3, c4⟩ := Bool.and_eq_true_iff.mp c
  exact ⟨_, _, (hx.mono s).dp c1, (hy.mono s).dp c2, c3, c4, k _ H Hs _ (Ext.refl s) (.bl _) q⟩
theorem od_neD : OpD X.K (rNeD X.K) gNeD := by
  intro Hs H x y d e Q P s hx hy q k
  obtain ⟨c, q⟩ := q
  obtain ⟨c1, c⟩ := Bool.and_eq_true_iff.mp c
  obtain ⟨c2, c⟩ := Bool.and_eq_true_iff.mp c
  obtain ⟨c3, c4⟩ := Bool.and_eq_true_iff.mp c
  exact ⟨_, _, (hx.mono s).dp c1, (hy.mono s).dp c2, c3, c4, k _ H Hs _ (Ext.refl s) (.bl _) q⟩
end
end PD

namespace PD
open PySem PySem.Spec L2

/-! ### dicts -/
def dKey : D → Option Key
  | .int i => some (.inl i)
  | .str x => some (.inr x)
  | _ => none
def tKeys : List D → Option (List Key)
  | [] => some []
  | d :: ds => match dKey d, tKeys ds with
    | some k, some ks => some (k :: ks)
    | _, _ => none
def tKey : D → Option (List Key)
  | .tup ds => tKeys ds
  | _ => none
section
variable {κ : Type} [DecidableEq κ]
def valD (kvs : List (κ × D)) (k : κ) : Option D := (kvs.find? fun kv => decide (kv.1 = k)).map (·.2)
def putD (kvs : List (κ × D)) (k : κ) (d : D) : List (κ × D) :=
  if (kvs.any fun kv => decide (kv.1 = k)) = true then kvs.map (fun kv => if kv.1 = k then (kv.1, d) else kv) else kvs ++ [(k, d)]
abbrev DdP (K : PySem.W.Frag) (H : Hp) (vs : List (κ × V)) (ds : List (κ × D)) : Prop := Paired (fun p q => p.1 = q.1 ∧ Dd K H p.2 q.2) vs ds
variable {K : PySem.W.Frag} {H : Hp}
theorem DdP.keys {vs : List (κ × V)} {ds : List (κ × D)} (h : DdP K H vs ds) : vs.map (·.1) = ds.map (·.1) := by
  induction h with
  | nil => rfl
  | cons a _ ih => rw [List.map_cons, List.map_cons, ih, a.1]
theorem DdP.any {vs : List (κ × V)} {ds : List (κ × D)} (h : DdP K H vs ds) (k : κ) : (vs.any fun kv => decide (kv.1 = k)) = ds.any fun kv => decide (kv.1 = k) := by
  induction h with
  | nil => rfl
  | cons a _ ih => rw [List.any_cons, List.any_cons, ih, a.1]
theorem DdP.val {vs : List (κ × V)} {ds : List (κ × D)} (h : DdP K H vs ds) (k : κ) : (valV vs k = none ∧ valD ds k = none) ∨ ∃ v d, valV vs k = some v ∧ valD ds k = some d ∧ Dd K H v d := by
  induction h with
  | nil => exact .inl ⟨rfl, rfl⟩
  | @cons p q _ _ a _ ih =>
    by_cases e : p.1 = k
    · refine .inr ⟨p.2, q.2, by simp [valV, e], ?_, a.2⟩
      have e2 : q.1 = k := a.1 ▸ e
      simp [valD, e2]
    · have e2 : ¬ q.1 = k := fun z => e (a.1.trans z)
      unfold valV valD at ih ⊢
      rw [List.find?_cons_of_neg (by simpa using e), List.find?_cons_of_neg (by simpa using e2)]
      exact ih
theorem DdP.put {vs : List (κ × V)} {ds : List (κ × D)} (h : DdP K H vs ds) (k : κ) {v : V} {d : D} (hv : Dd K H v d) : DdP K H (putK vs k v) (putD ds k d) := by
  have m : DdP K H (vs.map fun kv => if kv.1 = k then (kv.1, v) else kv) (ds.map fun kv => if kv.1 = k then (kv.1, d) else kv) := by
    induction h with
    | nil => exact .nil
    | @cons p q _ _ a _ ih =>
      rw [List.map_cons, List.map_cons]
      refine .cons ?_ ih
      by_cases e : p.1 = k
      · rw [if_pos e, if_pos (a.1 ▸ e)]; exact ⟨a.1, hv⟩
      · rw [if_neg e, if_neg fun z => e (a.1.trans z)]; exact a
  have s : DdP K H (vs ++ [(k, v)]) (ds ++ [(k, d)]) := by
    clear m
    induction h with
    | nil => exact .cons ⟨rfl, hv⟩ .nil
    | cons a _ ih => exact .cons a ih
  unfold putK putD
  rw [h.any k]
  split
  · exact m
  · exact s
theorem DdP.mono {H' : Hp} (s : Same H H') {vs : List (κ × V)} {ds : List (κ × D)} (h : DdP K H vs ds) : DdP K H' vs ds := Paired.mapP h fun _ _ z => ⟨z.1, z.2.mono s⟩
end
section
variable {K : PySem.W.Frag} {H : Hp}
theorem DdKv.pr : ∀ {vs : List (Key × V)} {ds : List (Key × D)}, DdKv K H vs ds → DdP K H vs ds
  | _, _, .nil => .nil
  | _, _, .cons h t => .cons ⟨rfl, h⟩ (DdKv.pr t)
theorem DdKv.of {vs : List (Key × V)} {ds : List (Key × D)} (h : DdP K H vs ds) : DdKv K H vs ds := by
  induction h with
  | nil => exact .nil
  | @cons p q _ _ a _ ih =>
    obtain ⟨k, v⟩ := p
    obtain ⟨k2, d⟩ := q
    obtain ⟨e, hd⟩ := a
    cases e
    exact .cons hd ih
theorem key_v {v : V} {d : D} {k : Key} (h : Dd K H v d) (e : dKey d = some k) : v = kV k := by
  cases h <;> cases e <;> rfl
theorem keys_v : ∀ {vs : List V} {ds : List D} {ks : List Key}, DdAll K H vs ds → tKeys ds = some ks → vs = ks.map kV
  | _, _, _, .nil, e => by cases e; rfl
  | _, _, ks, .cons (d := d) (ds := ds) h t, e => by
    unfold tKeys at e
    cases q : dKey d with
    | none => rw [q] at e; cases e
    | some k =>
      cases q2 : tKeys ds with
      | none => rw [q, q2] at e; cases e
      | some ks2 =>
        rw [q, q2] at e
        cases e
        rw [List.map_cons, ← key_v h q, ← keys_v t q2]
end
/-- a name's dict, its own or a shared one -/
def dicAt : Option Cell → Option (List (Key × D))
  | some (.ok kvs) => some kvs
  | some (.sh (.dic kvs)) => some kvs
  | _ => none
theorem dic_here {K : PySem.W.Frag} {Hb O Hs H : Hp} {σ : L2.St} {ρ : Cs} {i : Nat} {kvs : List (Key × D)} (r : Rel K Hb O Hs H σ ρ) (e : dicAt ρ[i]? = some kvs) : ∃ a vs, σ[i]? = some (some (.ref a)) ∧ H a = some (.dK vs) ∧ DdP K Hs vs kvs := by
  unfold dicAt at e
  split at e
  · cases e
    rename_i q
    obtain ⟨a, xs, e1, _, h1, h2⟩ := r.ok i _ q
    exact ⟨a, xs, e1, h1, h2.pr⟩
  · cases e
    rename_i q
    obtain ⟨v, e1, h1⟩ := r.var q
    cases h1 with
    | dic h1 h2 => exact ⟨_, _, e1, r.sub _ _ h1, h2.pr⟩
  · cases e
section
variable {X : Cx} {pos : Pos} {e f : Expr} {fe fk fd : FE}
/-- x.get(k, d) -/
def fGet2 (i : Nat) (fk fd : FE) : FE := fun ρ R => match dicAt ρ[i]? with
  | some _ => fk ρ fun k ρ1 => fd ρ1 fun z ρ2 => match dicAt ρ2[i]?, dKey k with
    | some kvs, some k => R ((valD kvs k).getD z) ρ2
    | _, _ => False
  | none => False
theorem ev_get2 (i : Nat) {o : Expr} {apos cpos : Pos} (hp : PE X (.Call (.Attribute o "get" apos) [e, f] [] cpos) (tDGet2 (tVar i) (tE X.K fk) (tE X.K fd))) : EV X (.Call (.Attribute o "get" apos) [e, f] [] cpos) (fGet2 i fk fd) := by
  refine weakE hp fun σ H Q h => ?_
  obtain ⟨Hb, O, Hs, ρ, R, rl, hf, k⟩ := h
  unfold fGet2 at hf
  split at hf
  · rename_i kv0 e0
    obtain ⟨a, vs0, es, h0, _⟩ := dic_here rl e0
    refine ⟨_, es, a, rfl, .inl ⟨vs0, .inl h0⟩, Hb, O, Hs, ρ, _, rl, hf, fun y H1 Hs1 d ρ1 s1 r1 h1 q1 => ⟨Hb, O, Hs1, ρ1, _, r1, q1, fun z H2 Hs2 dz ρ2 s2 r2 h2 q2 => ?_⟩⟩
    split at q2
    · rename_i kvs key e2 ek
      obtain ⟨a', vs, es', h3, p3⟩ := dic_here r2 e2
      rw [es] at es'
      cases es'
      have ey := key_v h1 ek
      subst ey
      refine ⟨_, DGet.k h3, ?_⟩
      rcases p3.val key with ⟨z1, z2⟩ | ⟨v, dv, z1, z2, hv⟩
      · rw [z1]
        rw [z2] at q2
        exact k _ H2 Hs2 _ ρ2 (s1.trans s2) r2 h2 q2
      · rw [z1]
        rw [z2] at q2
        exact k _ H2 Hs2 _ ρ2 (s1.trans s2) r2 hv q2
    · exact q2.elim
  · exact hf.elim
/-- x[k] -/
def fGet (i : Nat) (fk : FE) : FE := fun ρ R => match dicAt ρ[i]? with
  | some _ => fk ρ fun k ρ1 => match dicAt ρ1[i]?, dKey k with
    | some kvs, some k => ∃ d, valD kvs k = some d ∧ R d ρ1
    | _, _ => False
  | none => False
theorem ev_get (i : Nat) {o : Expr} (hp : PE X (.Subscript o e pos) (tDGet (tVar i) (tE X.K fk))) : EV X (.Subscript o e pos) (fGet i fk) := by
  refine weakE hp fun σ H Q h => ?_
  obtain ⟨Hb, O, Hs, ρ, R, rl, hf, k⟩ := h
  unfold fGet at hf
  split at hf
  · rename_i kv0 e0
    obtain ⟨a, vs0, es, h0, _⟩ := dic_here rl e0
    refine ⟨_, es, Hb, O, Hs, ρ, _, rl, hf, fun y H1 Hs1 d ρ1 s1 r1 h1 q1 => ?_⟩
    split at q1
    · rename_i kvs key e2 ek
      obtain ⟨a', vs, es', h3, p3⟩ := dic_here r1 e2
      rw [es] at es'
      cases es'
      have ey := key_v h1 ek
      subst ey
      obtain ⟨dv, ed, q1⟩ := q1
      rcases p3.val key with ⟨z1, z2⟩ | ⟨v, dv', z1, z2, hv⟩
      · rw [z2] at ed; cases ed
      · rw [z2] at ed
        cases ed
        have g := DGet.k h3 (k := key)
        rw [z1] at g
        exact ⟨_, v, rfl, g, k _ H1 Hs1 _ ρ1 s1 r1 hv q1⟩
    · exact q1.elim
  · exact hf.elim
/-- x[k] = v, x the name's own -/
def sPut (i : Nat) (fk fv : FE) : FS := fun DD ρ => fv ρ fun d ρ1 => match ρ1[i]? with
  | some (.ok _) => fk ρ1 fun k ρ2 => match ρ2[i]?, dKey k with
    | some (.ok kvs), some k => kvs.length ≤ 1000000 ∧ DD.nx (ρ2.set i (.ok (putD kvs k d)))
    | _, _ => False
  | _ => False
theorem sv_put (i : Nat) {o v : Expr} {pos' : Pos} {fv : FE} (hp : PS X (.Assign [.Subscript o e pos'] v pos) (sDPut (tVar i) (tE X.K fk) (tE X.K fv))) : SV X (.Assign [.Subscript o e pos'] v pos) (sPut i fk fv) := by
  refine weakS hp fun E σ H h => ?_
  obtain ⟨Hb, O, Hs, ρ, DD, rl, hf, k⟩ := h
  refine ⟨Hb, O, Hs, ρ, _, rl, hf, fun y H1 Hs1 d ρ1 s1 r1 h1 q1 => ?_⟩
  split at q1
  · rename_i kv0 e0
    obtain ⟨a, xs0, es, _, h0, _⟩ := r1.ok i _ e0
    refine ⟨_, es, Hb, O, Hs1, ρ1, _, r1, q1, fun z H2 Hs2 dz ρ2 s2 r2 h2 q2 => ?_⟩
    split at q2
    · rename_i kvs key e2 ek
      obtain ⟨a', xs, es', n2, a2, t2⟩ := r2.ok i _ e2
      rw [es] at es'
      cases es'
      have ey := key_v h2 ek
      subst ey
      refine ⟨a, _, rfl, DPut.k a2 (small_line' (by rw [t2.length]; exact q2.1)), ?_⟩
      exact k.nx _ _ _ _ (r2.mut (c' := .ok (putD kvs key d)) e2 rfl es fun H' hH => ⟨a, _, rfl, n2, hH, .of (t2.pr.put key (h1.mono s2))⟩) q2.2
    · exact q2.elim
  · exact q1.elim
def sSetK (i : Nat) : FS := fun DD ρ => match Nat.blt i ρ.length with
  | true => DD.nx (ρ.set i (.ok []))
  | false => False
theorem sv_setK (i : Nat) {x : Str} {pos' p2 : Pos} (hN : X.N.Nodup) (hi : X.N[i]? = some x := by rfl) (hx : Loc X.env.scope x := by first | exact Or.inl rfl | exact Or.inr rfl) (hs : swapsWith (.Dict [] [] p2) (some (.Name x pos')) pos.line X.env = pure false := by rfl)
    (hf : X.fn x = true ∨ X.env.scope.names.lookup x = some .local := by first | exact .inl rfl | exact .inr rfl) : SV X (.Assign [.Name x pos'] (.Dict [] [] p2) pos) (sSetK i) := by
  refine weakS (ps_set hN hi hx pe_dnewK hs hf) fun E σ H h => ?_
  obtain ⟨Hb, O, Hs, ρ, DD, r, hf, k⟩ := h
  unfold sSetK at hf
  split at hf
  · rename_i hl
    intro p hp
    obtain ⟨r1, hO⟩ := r.lay (o := .dK []) hp
    obtain ⟨n1, a1⟩ := r1.out p _ upd_same
    exact k.nx _ _ _ _ (r1.take (c := .ok []) hO (Nat.le_of_ble_eq_true hl) ⟨p, [], rfl, n1, a1, .nil⟩) hf
  · exact hf.elim
/-! keys that are tuples -/
def fInT (neg : Bool) (i : Nat) (fk : FE) : FE := fun ρ R => fk ρ fun k ρ1 => match ρ1[i]?, tKey k with
  | some (.ot kvs), some k => R (.bl (if neg then !(valD kvs k).isSome else (valD kvs k).isSome)) ρ1
  | _, _ => False
theorem tup_key {K : PySem.W.Frag} {Hs H : Hp} {v : V} {d : D} {k : List Key} (s : Same Hs H) (h : Dd K Hs v d) (e : tKey d = some k) (hk : ∀ a xs, SqT K Hs a xs → H a = some (.tup xs)) : ∃ b, v = .ref b ∧ H b = some (.tup (k.map kV)) := by
  cases h <;> try cases e
  rename_i a xs ds h1 h2
  have e : tKeys ds = some k := e
  have ev := keys_v h2 e
  subst ev
  exact ⟨a, rfl, hk _ _ h1⟩
end
end PD

namespace PD
open PySem PySem.Spec L2
open PyProof.Rows

/-! ### a def that changes the list it is handed first -/
def endsM (a : Addr) (R : D → List D → Prop) : EndsD := { nx := fun ρ => ∃ hs, ρ[0]? = some (.pl a hs) ∧ R .non hs, rt := fun d ρ => ∃ hs, ρ[0]? = some (.pl a hs) ∧ R d hs }
def othM (a : Addr) (Hs H : Hp) : Hp := fun b => if b = a then none else if Hs b = none then H b else none
theorem othM_some {a b : Addr} {Hs H : Hp} {o : HO} (e : othM a Hs H b = some o) : b ≠ a ∧ Hs b = none ∧ H b = some o := by
  unfold othM at e
  by_cases h : b = a
  · rw [if_pos h] at e; cases e
  · rw [if_neg h] at e
    by_cases n : Hs b = none
    · rw [if_pos n] at e; exact ⟨h, n, e⟩
    · rw [if_neg n] at e; cases e
section
variable {P : Program} {w : World} {K : PySem.W.Frag} {mg : Str → Option Value} {base : Heap} {x : Str} {st : Stmt} {N ps : List Str} {k : Nat}
theorem startC_cons (N : List Str) (c : Cell) (cs : List Cell) (h : cs.length + 1 ≤ N.length) : startC N (c :: cs) = c :: (cs ++ List.replicate (N.length - 1 - cs.length) .un) := by
  unfold startC
  rw [List.cons_append, List.length_cons, show N.length - (cs.length + 1) = N.length - 1 - cs.length from by omega]
theorem rel_startM {Hs H : Hp} {a : Addr} {xs vs : List V} {hs ds : List D} (s : Same Hs H) (n : Hs a = none) (hx : H a = some (.lst xs)) (h0 : DdAll K Hs xs hs) (h : DdAll K Hs vs ds) (hN : vs.length + 1 ≤ N.length) :
    Rel K Hs (othM a Hs H) Hs H (start N (.ref a :: vs)) (startC N (.pl a hs :: ds.map .sh)) := by
  have hl := h.length
  have key : ∀ (i : Nat) (c : Cell), (startC N (.pl a hs :: ds.map .sh))[i]? = some c → (i = 0 ∧ c = .pl a hs ∧ (start N (.ref a :: vs))[i]? = some (some (.ref a))) ∨ (c.owns = false ∧ CellOk K Hs H (start N (.ref a :: vs))[i]? c) := by
    intro i c e
    rw [startC_cons N _ _ (by rw [List.length_map]; omega)] at e
    cases i with
    | zero =>
      cases e
      exact .inl ⟨rfl, rfl, rfl⟩
    | succ i =>
      rw [List.getElem?_cons_succ] at e
      refine .inr ?_
      by_cases hi : i < ds.length
      · rw [List.getElem?_append_left (by simpa using hi), List.getElem?_map] at e
        cases q : ds[i]? with
        | none => rw [q] at e; cases e
        | some d =>
          rw [q] at e
          cases e
          obtain ⟨v, hv, hd⟩ := h.get i q
          refine ⟨rfl, v, ?_, hd⟩
          unfold L2.start
          rw [List.map_cons, List.cons_append, List.getElem?_cons_succ, List.getElem?_append_left (by rw [List.length_map]; omega), List.getElem?_map, hv]
          rfl
      · rw [List.getElem?_append_right (by simpa using hi), List.getElem?_replicate] at e
        split at e
        · cases e
          exact ⟨rfl, trivial⟩
        · cases e
  refine ⟨Same.refl _, s, fun b o e => (othM_some e).2, ?_, fun i c e => ?_, fun i c b e o t => ?_, fun i j c f b ne e1 e2 o1 o2 t => ?_⟩
  · unfold L2.start startC
    simp only [List.length_append, List.length_map, List.length_cons, List.length_replicate]
    omega
  · rcases key i c e with ⟨rfl, rfl, z⟩ | ⟨_, z⟩
    · exact ⟨a, xs, z, n, hx, h0, rfl⟩
    · exact z
  · rcases key i c e with ⟨rfl, rfl, z⟩ | ⟨z, _⟩
    · rw [z] at t
      cases t
      exact if_pos rfl
    · rw [o] at z; cases z
  · rcases key i c e1 with ⟨rfl, _, _⟩ | ⟨z, _⟩
    · rcases key j f e2 with ⟨rfl, _, _⟩ | ⟨z, _⟩
      · exact absurd rfl ne
      · rw [o2] at z; cases z
    · rw [o1] at z; cases z
theorem link_endM {Hs H : Hp} {a : Addr} {R : D → List D → Prop} {Q : VK} (k : ∀ v H' Hs' xs' d hs', ExtM a Hs H Hs' H' → H' a = some (.lst xs') → DdAll K Hs' xs' hs' → Dd K Hs' v d → R d hs' → Q v H') :
    Link K Hs (othM a Hs H) (endsM a R) { nx := fun _ H' => Q .non H', rt := Q } := by
  have fin : ∀ {σ' : L2.St} {H' Hs' : Hp} {ρ' : Cs} {v : V} {d : D} {hs : List D}, Rel K Hs (othM a Hs H) Hs' H' σ' ρ' → ρ'[0]? = some (.pl a hs) → Dd K Hs' v d → R d hs → Q v H' := by
    intro σ' H' Hs' ρ' v d hs r e hd hR
    obtain ⟨a', xs, e1, n, h1, t, z⟩ := r.ok 0 _ e
    subst z
    refine k v H' Hs' xs d hs ⟨r.base, r.sub, n, fun b o nb nn ho => r.out b o ?_⟩ h1 t hd hR
    unfold othM
    rw [if_neg nb, if_pos nn]
    exact ho
  exact ⟨fun σ' H' Hs' ρ' r ⟨hs, e, q⟩ => fin r e .non q, fun v σ' H' Hs' ρ' d r hd ⟨hs, e, q⟩ => fin r e hd q, fun _ _ _ _ _ z => z.elim, fun _ _ _ _ _ z => z.elim⟩
theorem Def.hasM {c : CtM} (d : Def K mg x st ps) (S : FnScope N ps (defScope st)) (len : ∀ hs ds R, c hs ds R → ds.length + 1 = ps.length)
    (hb : ∀ (f : Addr) (cdv : Value) (A : Around) (outer : List Env) (s : Shared) (H : Hp) (E : XK), Rm k (A.deeper (envOfC x (defScope st) s.heap.objs.size f cdv)) →
      ∃ t, BV (cxOf L2.CX0 P w K mg base N x (defScope st) f cdv A outer s H E).nox (defBody st) t ∧ ∀ a hs ds R, c hs ds R → t (endsM a R) (startC N (.pl a hs :: ds.map .sh))) : Has P w K mg base L2.CX0 x (k + 1) (spM K c) := by
  have ln : ∀ {vs : List V} {ds : List D} {Hs : Hp} {hs : List D} {R : D → List D → Prop} {a : Addr}, DdAll K Hs vs ds → c hs ds R → (V.ref a :: vs).length = ps.length := fun h1 h2 => by
    rw [List.length_cons, h1.length]; exact len _ _ _ h2
  refine d.has S (fun vs H Q E ⟨Hs, a, xs, hs, vs', ds, R, e, _, _, _, _, h1, h2, _⟩ => e ▸ ln h1 h2) fun f cdv A outer s H vs Q E hr h => ?_
  obtain ⟨t, ht, hc⟩ := hb f cdv A outer s H E hr
  obtain ⟨Hs, a, xs, hs, vs', ds, R, rfl, s1, n, hx, h0, h1, h2, kk⟩ := h
  have l1 := ln (a := a) h1 h2
  refine ⟨_, PSs.nox ht, Hs, _, Hs, _, _, rel_startM s1 n hx h0 h1 ?_, hc a hs ds R h2, link_endM kk⟩
  have := congrArg List.length S.pre
  rw [List.length_take] at this
  rw [List.length_cons] at l1
  omega
end
/-! ### a def that gives a new list -/
abbrev CtL := List D → (List D → Prop) → Prop
def spL (K : PySem.W.Frag) (c : CtL) : Sp := fun vs H Q _ => ∃ Hs ds R, Same Hs H ∧ DdAll K Hs vs ds ∧ c ds R ∧
  ∀ p xs H' Hs' ds', Ext Hs H Hs' H' → H p = none → Hs' p = none → H' p = some (.lst xs) → DdAll K Hs' xs ds' → R ds' → Q (.ref p) H'
theorem Rel.gain {K : PySem.W.Frag} {Hb O Hs H Hs' H' : Hp} {σ : L2.St} {ρ : Cs} {p : Addr} {o : HO} (r : Rel K Hb O Hs H σ ρ) (x : Ext Hs H Hs' H') (hp : H p = none) (n : Hs' p = none) (h : H' p = some o) : Rel K Hb (upd O p o) Hs' H' σ ρ ∧ O p = none := by
  have hO : O p = none := by
    cases e : O p with
    | none => rfl
    | some u => obtain ⟨_, z⟩ := r.out p u e; rw [hp] at z; cases z
  have r' := r.ext x
  refine ⟨⟨r'.base, r'.sub, fun b u e => ?_, r'.len, r'.ok, fun i c b e ho s => ?_, r'.apart⟩, hO⟩
  · by_cases hb : b = p
    · subst hb; rw [upd_same] at e; cases e; exact ⟨n, h⟩
    · rw [upd_ne hb] at e; exact r'.out b u e
  · obtain ⟨a', u, s', _, h'⟩ := (r.ok i c e).addr ho
    rw [s] at s'
    cases s'
    rw [upd_ne (ne_of_none h' hp)]
    exact r.ow i c b e ho s
def fCallL (c : CtL) (fa : FA) : FA := fun ρ R => fa ρ fun ds ρ1 => c ds fun d => R d ρ1
section
variable {X : Cx} {x : Str} {k : Nat} {p pos : Pos} {e : Expr} {es : List Expr}
theorem lv_call {c : CtL} {fa : FA} (C : Has X.prog X.w X.K X.mg X.base L2.CX0 x k (spL X.K c)) (hr : Rm k X.A) (ha : AV X (e :: es) fa) (hg : Gl X x := by rfl) (hdb : (x == ("__debug__" : Str)) = false := by decide)
    (he : starEach (e :: es) X.env = (false, eval e X.env) :: starEach es X.env := by rfl) (hpl : (backTo pos (starEach es X.env)).any (·.1) = false := by rfl) : LV X (.Call (.Name x p) (e :: es) [] pos) (fCallL c fa) := by
  refine weakE (pe_callG (E := E0) C hr pass00 ha hg hdb he hpl) fun σ H Q h => ?_
  obtain ⟨Hb, O, Hs, ρ, R, rl, hf, kk⟩ := h
  refine ⟨Hb, O, Hs, ρ, _, rl, hf, fun vs H1 Hs1 ds ρ1 s1 r1 h1 q1 => ⟨Hs1, ds, _, r1.sub, h1, q1, fun v xs H2 Hs2 d x2 hp n h2 hd q2 => ?_⟩⟩
  obtain ⟨r2, hO⟩ := r1.gain x2 hp n h2
  exact kk v xs H2 Hs2 d ρ1 (s1.trans x2.sh) r2 hO hd q2
end
section
variable {P : Program} {w : World} {K : PySem.W.Frag} {mg : Str → Option Value} {base : Heap} {x : Str} {st : Stmt} {N ps : List Str} {k : Nat}
theorem Def.hasL {c : CtL} (d : Def K mg x st ps) (S : FnScope N ps (defScope st)) (len : ∀ ds R, c ds R → ds.length = ps.length)
    (hb : ∀ (f : Addr) (cdv : Value) (A : Around) (outer : List Env) (s : Shared) (H : Hp) (E : XK), Rm k (A.deeper (envOfC x (defScope st) s.heap.objs.size f cdv)) →
      ∃ (f1 : FS) (g : FA), PSs (cxOf L2.CX0 P w K mg base N x (defScope st) f cdv A outer s H E).nox (defBody st) (tSeq (tSt K f1) (tRet (tFr K g))) ∧ ∀ ds R, c ds R → f1 { nx := fun ρ => g ρ fun z _ => R z, rt := fun _ _ => False } (startC N (ds.map .sh))) : Has P w K mg base L2.CX0 x (k + 1) (spL K c) := by
  refine d.has S (fun vs H Q E ⟨Hs, ds, R, _, h1, h2, _⟩ => h1.length.trans (len ds R h2)) fun f cdv A outer s H vs Q E hr h => ?_
  obtain ⟨f1, g, ht, hc⟩ := hb f cdv A outer s H E hr
  obtain ⟨Hs, ds, R, s1, h1, h2, kk⟩ := h
  have l1 := h1.length.trans (len ds R h2)
  refine ⟨_, PSs.nox ht, Hs, _, Hs, _, _, rel_start s1 h1 ?_, hc ds R h2, ⟨fun σ' H' Hs' ρ' r q => ?_, fun _ _ _ _ _ _ _ _ z => z.elim, fun _ _ _ _ _ z => z.elim, fun _ _ _ _ _ z => z.elim⟩⟩
  · have := congrArg List.length S.pre
    rw [List.length_take] at this
    omega
  · refine ⟨Hs, _, Hs', ρ', _, r, q, fun p xs H2 Hs2 ds' ρ2 s2 r2 hO hd q2 => ?_⟩
    obtain ⟨n2, h2⟩ := r2.out p _ upd_same
    have ex : Ext Hs H Hs2 H2 := ⟨r2.base, r2.sub, fun a o n e => by
      have e' : (if Hs a = none then H a else none) = some o := by rw [if_pos n]; exact e
      exact r2.out a o (by rw [upd_ne (fun z => by subst z; exact absurd (hO.symm.trans e') (fun w => nomatch w))]; exact e')⟩
    have hp : H p = none := by
      have hs : Hs p = none := by
        cases z : Hs p with
        | none => rfl
        | some u => rw [r2.base p u z] at n2; cases n2
      have hO' : (if Hs p = none then H p else none) = none := hO
      rw [if_pos hs] at hO'
      exact hO'
    exact kk p xs H2 Hs2 ds' ex hp n2 h2 hd q2
end
/-! ### a def from the head's facts -/
section
variable {K : PySem.W.Frag} {mg : Str → Option Value} {x : Str} {st : Stmt} {ps : List Str}
theorem def_of {f : Addr} {fd : FuncData} (F : FunD K x x (defArgs st) (defBody st) (defScope st) [] [] f fd) (hm : mg x = some (.ref f))
    (hb : ∀ (kV doc pm : Value) (an : Option Addr) (cdv ct : Value) (us : List Value), us.length = ps.length → bindArgs (PySem.W.fnOf x x (defArgs st) (defBody st) (defScope st) .none kV doc pm an cdv ct) ⟨us, []⟩ = pure (ps.zip us)) : Def K mg x st ps := by
  have b := F.bindsN hb
  obtain ⟨oc, od, dV, kV, doc, pm, an, cdv, ct, osl, rfl, lk, hcd, hD, hK⟩ := F.ex
  rcases hD with ⟨_, rfl⟩ | ⟨e, _⟩
  · exact ⟨f, _, hm, ⟨⟨oc, od, kV, doc, pm, an, cdv, ct, osl, rfl, lk, hcd⟩, F.kp⟩, b⟩
  · exact absurd rfl e
end
/-! ### the end of a law: the promise of its def at the heap behind the top -/
def lawC (n : Nat) : Ct := fun ds R => ∃ ns : List Int, ns.length ≤ n ∧ ds = [.scr ns] ∧ R (.bl true)
theorem law_end {l : PySem.W.OpenLaw} {n k : Nat} {q : Program} {loose : List Str} {XP : (Str → Option Value) → Heap → Prop} {YP : World → Heap → Prop} {d : DefRec}
    (hn : l.most = some n) (hsz : n ≤ sizeLine) (hdf : d.params.defaults = []) (hr : Rm k callerA)
    (F : ∀ (w : World) (mg : Str → Option Value) (h : Heap), YP w h → h.Ns mainGlobals mg →
      ∃ K : PySem.W.Frag, K.In h ∧ ∀ base : Heap, K.In base → base.Ns mainGlobals mg → Has l.prog w K mg base L2.CX0 d.name k (spC K (lawC n))) :
    PySem.W.WalkO q loose XP YP l.row.toRowW d [] (fun f vs => PySem.call f vs) := by
  refine Att.attach_call hn hdf fun w s₀ s₁ mg mb fa o pm cd doc a vs ns G Y _ _ _ hmg hobj hints hlen hg => ?_
  obtain ⟨K, KX, hF⟩ := F w mg _ Y G.T.g
  obtain ⟨mc, nc1, nc2⟩ := G.T.nolimit
  have rv := vals_ints hints
  have script : ∀ H : Hp, SqL K H a (ns.map V.int) → (∀ b u, H b = some u → b = a ∧ ∃ ob xs, u = .frz ob (.lst xs)) → HOk l.prog w H s₁.heap → (∀ u, H a = some u → K.lookup a = none) →
      codeAny (model l.prog w) callerA (.call (.ref fa) ⟨[.ref a], []⟩) (fun r s' => r = .ok (.ret (.bool true)) ∧ OldK s₁.heap s'.heap ∧ s'.os = s₁.os ∧ AllBare s'.gens) s₁ := by
    intro H hS only hok hK
    have keep : ∀ {b : Addr} {ob : Obj}, s₁.heap.get? b = some ob → H b = none → (hidT s₁.heap H).get? b = some ob := fun e1 e2 => hidT_get e1 e2
    have dict : ∀ {b : Addr} {ob : Obj} {es : Array DictEntry} {ep : Nat}, s₁.heap.get? b = some ob → ob.data = .dict es ep → H b = none := by
      intro b ob es ep e1 e2
      cases z : H b with
      | none => rfl
      | some u =>
        obtain ⟨rfl, _⟩ := only b u z
        rw [hobj] at e1
        cases e1
        cases (show Data.seq vs.toArray _ = Data.dict es ep from e2)
    have names : ∀ {b : Addr} {m : Str → Option Value}, s₁.heap.Ns b m → (hidT s₁.heap H).Ns b m := by
      rintro b m ⟨ob, es, ep, e1, e2, r⟩
      exact ⟨ob, es, ep, keep e1 (dict e1 e2), e2, r⟩
    have KB : K.In (hidT s₁.heap H) := by
      intro b ob e
      refine keep (KX b ob e) ?_
      cases z : H b with
      | none => rfl
      | some u =>
        obtain ⟨rfl, _⟩ := only b u z
        rw [hK u z] at e
        cases e
    have M : Mod K mg (hidT s₁.heap H) := ⟨KB, names G.T.g, ⟨mb, names G.T.b, G.T.builtins⟩, ⟨mc, names nc1, nc2⟩⟩
    have E0' : Env0 l.prog w K mg (hidT s₁.heap H) callerA [] s₁ H := ⟨rfl, M, fun b ob e => of_hidT e, Nat.le_of_eq (hidT_size _ _), trivial, fun b hb => (nomatch hb), hok, .of_eq hg⟩
    obtain ⟨f, fd, ps, hm, _, bd, FN⟩ := hF _ KB (names G.T.g)
    have ef : f = fa := by
      have z := hm.symm.trans hmg
      cases z
      rfl
    subst ef
    have pr : spC K (lawC n) [.ref a] H (fun v _ => v = .bl true) (fun _ _ _ => False) := ⟨H, [.scr ns], fun d => d = .bl true, Same.refl _, .cons (.scr hS) .nil, ⟨ns, hlen, rfl, rfl⟩, fun v H' Hs' d _ hd e => by
      subst e
      cases hd
      rfl⟩
    have lp : [V.ref a].length = ps.length := FN.len _ _ _ _ pr
    have bt := bd s₁ [.ref a] KX (by simpa using lp)
    rw [List.append_nil] at bt
    refine codeAny_mono (FN.run callerA [] s₁ H ⟨[.ref a], []⟩ [.ref a] [.ref a] _ _ hr E0' bt (.cons rfl .nil) pr) ?_
    intro r s' h
    match r, h with
    | .error e, h => exact h.elim
    | .ok .next, h => exact False.elim h
    | .ok .brk, h => exact False.elim h
    | .ok .cont, h => exact False.elim h
    | .ok (.ret u), h =>
      obtain ⟨v, H', os, bare, un, hok', r', qv⟩ := h
      have qv : v = .bl true := qv
      subst qv
      have eu : u = Value.bool true := r'
      subst eu
      refine ⟨rfl, OldK.of_keep ?_, os, bare⟩
      intro b ob e
      cases z : H b with
      | none => exact un.keep b ob e z (fun m => nomatch m) (fun m => nomatch m)
      | some u =>
        obtain ⟨rfl, oc, xs, rfl⟩ := only b u z
        obtain ⟨e1, _⟩ := hok b _ z
        obtain ⟨e2, _⟩ := hok' b _ (un.frzs b oc _ z)
        rw [e] at e1
        cases e1
        exact e2
  have lz : ns.length ≤ sizeLine := Nat.le_trans hlen hsz
  cases hk : K.lookup a with
  | some oa =>
    have e := KX a oa hk
    rw [hobj] at e
    cases e
    refine script (fun _ => none) (.inr ⟨_, vs.toArray, _, hk, rfl, rfl, rfl, ?_, by simpa using rv⟩) (fun b u z => nomatch (show (none : Option HO) = some u from z)) (fun b u z => nomatch (show (none : Option HO) = some u from z)) fun u z => nomatch (show (none : Option HO) = some u from z)
    rw [List.size_toArray, hints.length]
    exact lz
  | none =>
    have at_ : ∀ b u, (fun c => if c = a then some (HO.frz { cls := .type "list", data := .seq vs.toArray } (.lst (ns.map V.int))) else none) b = some u → b = a ∧ u = HO.frz { cls := .type "list", data := .seq vs.toArray } (.lst (ns.map V.int)) := by
      intro b u z
      by_cases hb : b = a
      · have z' := (if_pos hb).symm.trans z
        cases z'
        exact ⟨hb, rfl⟩
      · have z' := (if_neg hb).symm.trans z
        cases z'
    refine script (fun c => if c = a then some (HO.frz { cls := .type "list", data := .seq vs.toArray } (.lst (ns.map V.int))) else none) (.inl (.inr ⟨{ cls := .type "list", data := .seq vs.toArray }, if_pos rfl⟩)) (fun b u z => ?_) (fun b u z => ?_) fun _ _ => hk
    · obtain ⟨e1, e2⟩ := at_ b u z
      exact ⟨e1, _, _, e2⟩
    · obtain ⟨e1, e2⟩ := at_ b u z
      subst e1 e2
      exact ⟨hobj, by rw [List.length_map]; exact lz, vs, _, rv, hobj⟩
end PD

namespace PD
open PySem PySem.Spec L2 PyProof.Rows L2.DX

/-! ### sorted(d.items()), d from ints to ints -/
def entI (q : Int × Int) : Key × V := (Sum.inl q.1, V.int q.2)
def lexLe (p q : Int × Int) : Prop := p.1 < q.1 ∨ (p.1 = q.1 ∧ p.2 ≤ q.2)
def rItemsK : V → List V → Hp → VK → Prop := fun x xs H Q => ∃ (a : Addr) (kvs : List (Key × V)), x = .ref a ∧ xs = [] ∧ H a = some (.dK kvs) ∧ ∀ p, H p = none → Q (.ref p) (upd H p (itemsO p a))
def rSortIK : List V → Hp → VK → Prop := fun vs H Q => ∃ (p a : Addr) (ks : List (Int × Int)), vs = [.ref p] ∧ H p = some (itemsO p a) ∧ H a = some (.dK (ks.map entI)) ∧
  ∀ (H' : Hp) (l : Addr) (ys : List (Addr × (Int × Int))), (∀ b o, H b = some o → H' b = some o) → H l = none → (∀ t ∈ ys, H t.1 = none ∧ t.1 ≠ l) → (ys.map (·.2)).Perm ks → (ys.map (·.2)).Pairwise lexLe →
    H' l = some (.lst (ys.map fun z => V.ref z.1)) → (∀ t ∈ ys, H' t.1 = some (.tup [.int t.2.1, .int t.2.2])) → Q (.ref l) H'
def rdP (h : Heap) (v : Value) : Int × Int := match v with
  | .ref a => match h.get? a with
    | some o => match o.data with
      | .seq xs _ => match xs.toList with
        | [.int x _, .int y _] => (x, y)
        | _ => (0, 0)
      | _ => (0, 0)
    | none => (0, 0)
  | _ => (0, 0)
theorem rdP_of {h : Heap} {v : Value} {x y : Int} (p : Srt.IsPair h v x y) : rdP h v = (x, y) := by
  obtain ⟨a, o, t, u, n, rfl, ho, _, hd⟩ := p
  unfold rdP
  simp only [ho, hd]
section
variable {X : Cx}
theorem mt_itemsK : MtR X "dict.items" rItemsK := by
  intro pins s σ H x xs v us Q I rx rxs h
  obtain ⟨a, kvs, rfl, rfl, ha, q⟩ := h
  cases rx
  cases rxs
  obtain ⟨_, hd, vs, _, o, es, ep, ho, hx, hdat, _⟩ := dk_of I.hok ha
  refine DT.callItems (es := es) (ep := ep) hd ⟨o, ho, hx, hdat⟩ ?_
  have fr : H s.heap.objs.size = none := I.hok.fresh (Nat.le_refl _)
  refine ⟨.ref s.heap.objs.size, _, I.laid (t' := s.toks) (fun b u e => Heap.get?_push_of_some _ e) (Nat.le_refl _) (itemsO_ok (P := X.prog) (w := X.w) (d := a) (Heap.get?_push_size _ rfl)), rfl, q _ fr⟩
theorem ent_of {es : List DictEntry} {vs : List (Key × Value)} {w : World} {P : Program} : ∀ {ks : List (Int × Int)}, PySem.Pairs (mixKind P w) es vs → KV (ks.map entI) vs → ∀ (j : Nat) (e : DictEntry), es[j]? = some e → ∃ (q : Int × Int) (t u : Tok), ks[j]? = some q ∧ e.key = .int q.1 t ∧ e.val = .int q.2 u := by
  intro ks p
  induction p generalizing ks with
  | nil => intro _ j e h; simp at h
  | @cons en kv es kvs h1 h2 _ ih =>
    intro r j e he
    cases ks with
    | nil => cases r
    | cons q ks =>
      rw [List.map_cons] at r
      cases r with
      | cons r0 rt =>
        cases j with
        | zero =>
          have he : some en = some e := he
          cases he
          obtain ⟨e1, e2⟩ := r0
          obtain ⟨u, e2⟩ := (show RelV (.int q.2) kv.2 from e2)
          have h1 : keyIs kv.1 en.key = true := h1
          rw [← e1] at h1
          rcases keyIs_shape h1 with ⟨i, t, z1, z2⟩ | ⟨i, t, z1, z2⟩
          · cases z1
            exact ⟨q, t, u, rfl, z2, h2.trans e2⟩
          · cases z1
        | succ j => exact ih rt j e he
theorem pairs_len {es : List DictEntry} {vs : List (Key × Value)} {w : World} {P : Program} (p : PySem.Pairs (mixKind P w) es vs) : es.length = vs.length := by
  induction p with
  | nil => rfl
  | cons _ _ _ ih => rw [List.length_cons, List.length_cons, ih]
theorem zip_fst {α β γ : Type} (f : α → γ) : ∀ (as : List α) (ks : List β), as.length = ks.length → (as.zip ks).map (fun z => f z.1) = as.map f
  | [], _, _ => rfl
  | a :: as, [], h => by simp at h
  | a :: as, k :: ks, h => by
    rw [List.zip_cons_cons, List.map_cons, List.map_cons, zip_fst f as ks (by simpa using h)]
theorem cr_sortedIK (hc : X.calm = true) : CallR X (.builtin "sorted") rSortIK := by
  intro pins s σ H xs us Q I r h
  obtain ⟨p, a, ks, rfl, hp, ha, q⟩ := h
  obtain rfl := Vals.ref1 r
  have view : s.heap.IsItemsView p a := (show ObjOk X.prog X.w H s.heap p (itemsO p a) from I.hok p _ hp).1
  obtain ⟨z, hsm, vs, kv, o, es, ep, ho, hx, hdat, _, prs, _⟩ := dk_of I.hok ha
  rw [List.length_map] at z
  have lv : ks.length = vs.length := by
    have e := Paired.length kv
    rw [List.length_map] at e
    exact e
  have le : es.size = ks.length := by rw [← Array.length_toList, pairs_len prs, lv]
  have ent := ent_of prs kv
  have hh : X.A.handled = none := I.ok.hd hc
  refine DT.sortedI (es := es) (ep := ep) hh view ⟨o, ho, hx, hdat⟩ (by rw [le]; exact z) fun h' tk as hk hlt hl hG => ?_
  have lak : as.length = ks.length := hl.trans le
  have nd : as.Nodup := List.Pairwise.imp (fun h => Nat.ne_of_lt h) hG.rise
  have made : ∀ (j : Nat) (b : Addr), as[j]? = some b → ∃ (e : Int × Int) (t u : Tok), ks[j]? = some e ∧ h'.get? b = some { cls := .type "tuple", data := .seq #[.int e.1 t, .int e.2 u] } := by
    intro j b hj
    obtain ⟨en, he, hg⟩ := hG.pairs j b hj
    rw [← Array.getElem?_toList] at he
    obtain ⟨e, t, u, h1, h2, h3⟩ := ent j en he
    rw [h2, h3] at hg
    exact ⟨e, t, u, h1, hg⟩
  have hob : (h'.push { cls := .type "list", data := .seq (as.map Value.ref).toArray }).get? h'.objs.size = some (seqObj "list" (as.map Value.ref).toArray 0) := Heap.get?_push_size _ rfl
  have kb : ∀ b u, h'.get? b = some u → (h'.push { cls := .type "list", data := .seq (as.map Value.ref).toArray }).get? b = some u := fun b u e => Heap.get?_push_of_some _ e
  have ne0 : ∀ b u, h'.get? b = some u → b ≠ h'.objs.size := fun b u e => Nat.ne_of_lt (Heap.lt_size e)
  generalize h'.push { cls := .type "list", data := .seq (as.map Value.ref).toArray } = h2 at hob kb ⊢
  have pr2 : ∀ (j : Nat) (b : Addr) (e : Int × Int), as[j]? = some b → ks[j]? = some e → Srt.IsPair h2 (.ref b) e.1 e.2 := by
    intro j b e hj he
    obtain ⟨e', t, u, h1, h3⟩ := made j b hj
    obtain rfl : e' = e := Option.some.inj (h1.symm.trans he)
    exact ⟨b, _, t, u, 0, rfl, kb _ _ h3, rfl, rfl⟩
  have kv2 : ∀ (j : Nat) (b : Addr) (e : Int × Int), as[j]? = some b → ks[j]? = some e → rdP h2 (.ref b) = e := fun j b e hj he => rdP_of (pr2 j b e hj he)
  have at_ : ∀ v ∈ as.map Value.ref, ∃ (j : Nat) (b : Addr) (e : Int × Int), v = .ref b ∧ as[j]? = some b ∧ ks[j]? = some e := by
    intro v hv'
    obtain ⟨b, hb, rfl⟩ := List.mem_map.mp hv'
    obtain ⟨j, hj⟩ := List.mem_iff_getElem?.mp hb
    obtain ⟨e, _, _, he, _⟩ := made j b hj
    exact ⟨j, b, e, rfl, hj, he⟩
  refine wpAny_call_entry slot_list_sort ⟨_, hob, rfl⟩ entry_list_sort (SrtO.list_sort_ord (s := { s with heap := h2, toks := tk }) (SrtO.swo_lex (rdP h2)) hob (by rw [List.length_map, lak]; exact z)
    (fun h2' => SrtO.pairs_sortableO (by omega) (fun v hv => ?_) fun u e => ?_) fun out o1 o2 => ⟨.none, rfl, ?_⟩) (args_list_sort _)
  · obtain ⟨j, b, e, rfl, hj, he⟩ := at_ v hv
    have x := pr2 j b e hj he
    rw [← kv2 j b e hj he] at x
    exact x
  · have e' : some u = some (seqObj "list" (as.map Value.ref).toArray 0) := e.symm.trans hob
    cases e'
    intro c
    exact absurd (Value.type.inj c) (by decide)
  · show EP X pins σ Q (.ref h'.objs.size) { s with heap := sortedHeap h2 h'.objs.size (as.map Value.ref) out.toArray, toks := tk }
    obtain ⟨zs, pz, ez⟩ := perm_lift (fun z : Addr × (Int × Int) => Value.ref z.1) o2.perm (as.zip ks) (zip_fst Value.ref as ks lak)
    have idx : ∀ y ∈ zs, ∃ j : Nat, as[j]? = some y.1 ∧ ks[j]? = some y.2 := by
      intro y hy
      obtain ⟨j, hj⟩ := List.mem_iff_getElem?.mp (pz.mem_iff.mp hy)
      exact ⟨j, List.getElem?_zip_eq_some.mp hj⟩
    have hperm : (zs.map (·.2)).Perm ks := by
      have e := pz.map (·.2)
      rw [List.map_snd_zip (by rw [lak]; exact Nat.le_refl _)] at e
      exact e
    have hsort : (zs.map (·.2)).Pairwise lexLe := by
      rw [← ez] at o1
      have o1 := List.pairwise_map.mp o1
      rw [List.pairwise_map]
      refine List.Pairwise.imp_of_mem (fun {x y} hx hy h => ?_) o1
      obtain ⟨j, j1, j2⟩ := idx x hx
      obtain ⟨i, i1, i2⟩ := idx y hy
      have h := SrtO.lexB_no.mp h
      rw [kv2 j _ _ j1 j2, kv2 i _ _ i1 i2] at h
      unfold lexLe
      omega
    have kF : ∀ b u, b ≠ h'.objs.size → h2.get? b = some u → (sortedHeap h2 h'.objs.size (as.map Value.ref) out.toArray).get? b = some u := fun b u hb e => (sortedHeap_old hb (Heap.lt_size e)).trans e
    have kS : ∀ b u, s.heap.get? b = some u → (sortedHeap h2 h'.objs.size (as.map Value.ref) out.toArray).get? b = some u := fun b u e => kF b u (ne0 _ _ (hk b u e)) (kb _ _ (hk b u e))
    obtain ⟨eF, heF⟩ := sortedHeap_at (vs := as.map Value.ref) (out := out.toArray) hob
    have I1 : Inv X pins σ H { s with heap := sortedHeap h2 h'.objs.size (as.map Value.ref) out.toArray, toks := tk } := I.kept (t' := tk) kS
    have hn0 : H h'.objs.size = none := I.hok.fresh (Nat.le_of_lt hlt)
    have zl : zs.length = ks.length := by
      have e := hperm.length_eq
      rw [List.length_map] at e
      exact e
    have rv : Vals (zs.map fun z => V.ref z.1) out := by
      rw [← ez]
      exact vals_maps (fun z : Addr × (Int × Int) => V.ref z.1) (fun z => Value.ref z.1) zs fun _ _ => rfl
    have I2 : Inv X pins σ (upd H h'.objs.size (.lst (zs.map fun z => V.ref z.1))) { s with heap := sortedHeap h2 h'.objs.size (as.map Value.ref) out.toArray, toks := tk } :=
      I1.take (h' := sortedHeap h2 h'.objs.size (as.map Value.ref) out.toArray) (t' := tk) (fun b ob _ e => e) (I.fpOk (Nat.le_of_lt hlt) hn0) ⟨by rw [List.length_map, zl]; exact z, out, eF, rv, heF⟩
    have fresh : ∀ b ∈ as, s.heap.objs.size ≤ b ∧ H b = none ∧ b ≠ h'.objs.size := fun b hb => by
      obtain ⟨j, hj⟩ := List.mem_iff_getElem?.mp hb
      obtain ⟨_, _, _, _, hg⟩ := made j b hj
      have hbl : s.heap.objs.size ≤ b := Nat.le_of_lt (hG.above b hb)
      exact ⟨hbl, I.hok.fresh hbl, ne0 _ _ hg⟩
    obtain ⟨H2, I3, g, qt⟩ := takeT (P := fun b ws => ∃ (j : Nat) (e : Int × Int), as[j]? = some b ∧ ks[j]? = some e ∧ ws = [.int e.1, .int e.2]) I as _ I2 nd fun b hb => by
      obtain ⟨j, hj⟩ := List.mem_iff_getElem?.mp hb
      obtain ⟨e, t, u, he, hg⟩ := made j b hj
      obtain ⟨f1, f2, f3⟩ := fresh b hb
      refine ⟨f1, by rw [upd_ne f3]; exact f2, [.int e.1, .int e.2], ⟨j, e, hj, he, rfl⟩, fun H3 => ⟨(by show 2 ≤ sizeLine; decide), [.int e.1 t, .int e.2 u], .cons ⟨t, rfl⟩ (.cons ⟨u, rfl⟩ .nil), ⟨_, kF _ _ f3 (kb _ _ hg), rfl, 0, rfl⟩⟩⟩
    have gr : ∀ b u, H b = some u → H2 b = some u := fun b u e => g b u (by rw [upd_ne (ne_of_none e hn0)]; exact e)
    have mem : ∀ y ∈ zs, y.1 ∈ as := fun y hy => by
      obtain ⟨i, i1, _⟩ := idx y hy
      exact List.mem_of_getElem? i1
    refine ⟨.ref h'.objs.size, H2, I3, rfl, q H2 h'.objs.size zs gr hn0 (fun y hy => (fresh _ (mem y hy)).2) hperm hsort (g _ _ upd_same) fun y hy => ?_⟩
    obtain ⟨i, i1, i2⟩ := idx y hy
    obtain ⟨ws, ⟨j, e, j1, j2, ev⟩, hH⟩ := qt y.1 (List.mem_of_getElem? i1)
    have eij : i = j := (List.getElem?_inj (List.getElem?_eq_some_iff.mp i1).1 nd).mp (i1.trans j1.symm)
    subst eij
    have ee : e = y.2 := Option.some.inj (j2.symm.trans i2)
    rw [ev, ee] at hH
    exact hH
end
/-! as a rule over data -/
def entD (q : Int × Int) : Key × D := (Sum.inl q.1, D.int q.2)
def pairD (q : Int × Int) : D := .tup [.int q.1, .int q.2]
def fSortIt (i : Nat) : FA := fun ρ R => match dicAt ρ[i]? with
  | some kvs => ∃ ks : List (Int × Int), kvs = ks.map entD ∧ ∀ ys : List (Int × Int), ys.Perm ks → ys.Pairwise lexLe → R (ys.map pairD) ρ
  | none => False
theorem ent_dd {K : PySem.W.Frag} {H : Hp} : ∀ {vs : List (Key × V)} {ks : List (Int × Int)}, DdP K H vs (ks.map entD) → vs = ks.map entI
  | [], [], _ => rfl
  | [], _ :: _, h => by cases h
  | _ :: _, [], h => by cases h
  | v :: vs, k :: ks, h => by
    rw [List.map_cons] at h
    cases h with
    | cons a t =>
      obtain ⟨e1, e2⟩ := a
      obtain ⟨v1, v2⟩ := v
      cases (show v1 = Sum.inl k.1 from e1)
      cases (show Dd K H v2 (.int k.2) from e2)
      rw [List.map_cons, ent_dd t]
      rfl
theorem all_pairs {K : PySem.W.Frag} {H : Hp} : ∀ ys : List (Addr × (Int × Int)), (∀ t ∈ ys, H t.1 = some (.tup [.int t.2.1, .int t.2.2])) → DdAll K H (ys.map fun z => V.ref z.1) ((ys.map (·.2)).map pairD)
  | [], _ => .nil
  | y :: ys, h => by
    rw [List.map_cons, List.map_cons, List.map_cons]
    exact .cons (.tup (.inl (.inl (h y (List.mem_cons_self ..)))) (.cons (.int _) (.cons (.int _) .nil))) (all_pairs ys fun t ht => h t (List.mem_cons_of_mem _ ht))
section
variable {X : Cx} {p pos apos cpos px : Pos}
theorem lv_sortIt (i : Nat) {x : Str} (hc : X.calm = true) (hm : X.mg "sorted" = none) (hN : X.N[i]? = some x := by rfl) (hv : Vis X.env.scope x := by first | exact Or.inl rfl | exact Or.inr (Or.inl rfl) | exact Or.inr (Or.inr rfl)) (hg : Gl X "sorted" := by rfl)
    (hd : (x == ("__debug__" : Str)) = false := by decide) (hcd : (x == ("__classdict__" : Str)) = false := by decide)
    (hbase : attributeBase (.Name x px) "items" X.env (eval (.Name x px) X.env) = eval (.Name x px) X.env := by rfl) (hline : (apos.endLine == cpos.line) = true := by rfl)
    (he : starEach [.Call (.Attribute (.Name x px) "items" apos) [] [] cpos] X.env = (false, eval (.Call (.Attribute (.Name x px) "items" apos) [] [] cpos) X.env) :: starEach [] X.env := by rfl) (hpl : (backTo pos (starEach [] X.env)).any (·.1) = false := by rfl) :
    LV X (.Call (.Name "sorted" p) [.Call (.Attribute (.Name x px) "items" apos) [] [] cpos] [] pos) (fSortIt i) := by
  refine weakE (pe_callB (cr_sortedIK hc) hg hm boot_sorted (pa_cons (pe_bm0 F.plainAttrs_dict F.slot_dict_items F.type_dict_items mt_itemsK (pe_var hN hv hd hcd) hbase hline) pa_nil he) (by decide) (by decide) he hpl) fun σ H Q h => ?_
  obtain ⟨Hb, O, Hs, ρ, R, rl, hf, k⟩ := h
  unfold fSortIt at hf
  split at hf
  · rename_i kvs ek
    obtain ⟨ks, rfl, hR⟩ := hf
    obtain ⟨a, vs, es, ha, hp⟩ := dic_here rl ek
    have ev := ent_dd hp
    subst ev
    refine ⟨_, es, .inr (.inr (.inl ⟨rfl, .inl ⟨_, ha⟩⟩)), a, _, rfl, rfl, ha, fun p hp => ?_⟩
    have npa : a ≠ p := fun z => by subst z; rw [hp] at ha; cases ha
    refine ⟨p, a, ks, rfl, upd_same, by rw [upd_ne npa]; exact ha, fun H' l ys kp hl hy pm so el et => ?_⟩
    have hlp : l ≠ p := fun z => by subst z; rw [upd_same] at hl; cases hl
    rw [upd_ne hlp] at hl
    have kp' : ∀ b o, H b = some o → H' b = some o := fun b o e => kp b o (by rw [upd_ne (ne_of_none e hp)]; exact e)
    have hyn : ∀ t ∈ ys, H t.1 = none := fun t ht => by
      obtain ⟨z1, _⟩ := hy t ht
      by_cases e : t.1 = p
      · rw [e, upd_same] at z1; cases z1
      · rw [upd_ne e] at z1; exact z1
    have off : ∀ b o, H b = some o → ∀ t ∈ ys, t.1 ≠ b := fun b o e t ht z => by
      have q := hyn t ht
      rw [z, e] at q
      cases q
    have ex : Ext Hs H (fun b => if b ∈ ys.map (·.1) then H' b else Hs b) H' := by
      refine ⟨fun b o e => ?_, fun b o e => ?_, fun b o n e => ?_⟩
      · have hb : b ∉ ys.map (·.1) := fun m => by
          obtain ⟨t, ht, z⟩ := List.mem_map.mp m
          exact off b o (rl.sub b o e) t ht z
        show (if b ∈ ys.map (·.1) then H' b else Hs b) = some o
        rw [if_neg hb]; exact e
      · have e : (if b ∈ ys.map (·.1) then H' b else Hs b) = some o := e
        by_cases hb : b ∈ ys.map (·.1)
        · rw [if_pos hb] at e; exact e
        · rw [if_neg hb] at e; exact kp' b o (rl.sub b o e)
      · have hb : b ∉ ys.map (·.1) := fun m => by
          obtain ⟨t, ht, z⟩ := List.mem_map.mp m
          exact off b o e t ht z
        exact ⟨by show (if b ∈ ys.map (·.1) then H' b else Hs b) = none; rw [if_neg hb]; exact n, kp' b o e⟩
    have ln : (if l ∈ ys.map (·.1) then H' l else Hs l) = none := by
      have hb : l ∉ ys.map (·.1) := fun m => by
        obtain ⟨t, ht, z⟩ := List.mem_map.mp m
        exact (hy t ht).2 z
      rw [if_neg hb]
      exact rl.sub.free hl
    obtain ⟨r2, hO⟩ := rl.gain ex hl ln el
    refine k l _ H' _ _ ρ ex.sh r2 hO (all_pairs ys fun t ht => ?_) (hR _ pm so)
    show (if t.1 ∈ ys.map (·.1) then H' t.1 else Hs t.1) = _
    rw [if_pos (List.mem_map.mpr ⟨t, ht, rfl⟩)]
    exact et t ht
  · exact hf.elim
/-- sorted(d), d's keys ints -/
def gSortD : List D → (List D → Prop) → Prop := fun ds P => match ds with
  | [.dic kvs] => ∃ ks : List Int, kvs.map (·.1) = ks.map Sum.inl ∧ ks.length < 64 ∧ ∀ ms : List Int, ms.Perm ks → ms.Pairwise (· ≤ ·) → P (ms.map .int)
  | _ => False
theorem lv_sortD {e : Expr} {es : List Expr} {fa : FA} (hc : X.calm = true) (hm : X.mg "sorted" = none) (ha : AV X (e :: es) fa) (hg : Gl X "sorted" := by rfl) (he : starEach (e :: es) X.env = (false, eval e X.env) :: starEach es X.env := by rfl) (hpl : (backTo pos (starEach es X.env)).any (·.1) = false := by rfl) : LV X (.Call (.Name "sorted" p) (e :: es) [] pos) (fCaL gSortD fa) := by
  refine lv_blt (call_sortedDI hc) ?_ boot_sorted hm ha hg (by decide) (by decide) he hpl
  intro Hs H xs ds Q P s h q k
  unfold gSortD at q
  split at q
  · obtain ⟨v, rfl, hv⟩ := one_dd h
    obtain ⟨ks, hk, h64, q⟩ := q
    cases hv with
    | dic h1 h2 => exact ⟨_, _, ks, rfl, .inl (s _ _ h1), h2.pr.keys.trans hk, h64, fun ms p hp ho hH => k p _ _ hH (dd_ints ms) (q ms hp ho)⟩
  · exact q.elim
end
end PD

namespace PD
open PySem PySem.Spec L2

theorem Rm.u1 {k : Nat} {A : Around} (r : Rm k A) : A.units + 1 < cLine := by have := r.room.un; omega
theorem Rm.u64 {k : Nat} {A : Around} (r : Rm k A) : A.units + 64 < cLine := by have := r.room.un; omega
/-! ### a comprehension stored where it stands -/
section
variable {X : Cx} {pos : Pos}
theorem lc_body {K : PySem.W.Frag} {fi : FA} {g : FG} {ft : FT} {fe : FE} {own : List (Str × Nat)} {σ : L2.St} {H : Hp} {Q : VK} (h : tFr K (fLc fi g ft fe (own.map (·.2))) σ H Q) :
    tLc (tIt K fi) (tGw K (own.map fun (p : Str × Nat) => p.2) g) (tTe K ft) (tE K fe) (own.map (·.2)) σ H Q := by
  obtain ⟨Hb, O, Hs, ρ, R, rl, hf, k⟩ := h
  refine ⟨Hb, O, Hs, ρ, _, rl, hf, fun J H1 Hs1 items ρ1 s1 r1 it q1 => ?_⟩
  obtain ⟨hlen, Pv, p0, step, fin⟩ := q1
  obtain ⟨G, Y, wk, gG, gY⟩ := it
  intro D hD
  obtain ⟨r2, hO⟩ := (r1.rebase (Same.refl Hs1)).lay (o := .lst []) hD
  refine lc_it wk (fun i H => i ≤ items.length ∧ ∃ Hs acc ds ρ, Rel K Hs1 (upd O D (.lst acc)) Hs H (wipe σ (own.map (·.2))) ρ ∧ DdAll K Hs acc ds ∧ acc.length ≤ i ∧ Pv i ds ρ) ⟨Nat.zero_le _, Hs1, [], [], _, r2.wipe _, .nil, Nat.le_refl _, p0⟩
    (fun i H _ ⟨_, Hs, acc, ds, ρ, r, _⟩ => gG Hs H r.base r.sub) ?_ ?_
  · rintro i x H H' hi ⟨_, Hs, acc, ds, ρ, r, ha, hl, p⟩ y
    obtain ⟨d, Hs', ed, ex, hd⟩ := gY i Hs H x H' r.base r.sub hi y
    refine ⟨Hs1, _, Hs', ρ, d, _, r.ext ex, hd, step i d ds ρ ed p, fun σ2 H2 Hs2 ρ2 s2 w2 r2 q2 => ⟨w2.trans (wipe_wipe _ _), ?_⟩⟩
    have w2 : wipe σ2 (own.map (·.2)) = wipe σ (own.map (·.2)) := w2.trans (wipe_wipe _ _)
    refine ⟨Hs1, _, Hs2, ρ2, _, r2, q2, fun b H3 Hs3 ρ3 s3 r3 q3 => ?_⟩
    cases b with
    | false =>
      rw [if_neg Bool.false_ne_true] at q3 ⊢
      have r4 := r3.wipe (own.map (·.2))
      rw [w2] at r4
      exact ⟨hi, Hs3, acc, ds, _, r4, ((ha.mono ex.sh).mono s2).mono s3, by omega, q3⟩
    | true =>
      rw [if_pos rfl] at q3 ⊢
      refine ⟨Hs1, _, Hs3, ρ3, _, r3, q3, fun y H4 Hs4 dy ρ4 s4 r4 h4 q4 => ?_⟩
      refine ⟨acc, (r4.out D _ upd_same).2, small_line' (by omega), hi, Hs4, acc ++ [y], ds ++ [dy], _, ?_, ((((ha.mono ex.sh).mono s2).mono s3).mono s4).append (.cons h4 .nil), by rw [List.length_append, List.length_singleton]; omega, q4⟩
      have r5 := (r4.turn (u := .lst (acc ++ [y])) hO).wipe (own.map (·.2))
      rw [w2] at r5
      exact r5
  · rintro H ⟨_, Hs, acc, ds, ρ, r, ha, _, p⟩
    have rr := Rel.restore r1 r.base r
    exact k D acc H Hs ds _ (s1.trans r.base) (rr.rebase (r1.base.trans r.base)) hO ha (fin ds ρ p)
theorem sv_setLc (i : Nat) {y : Str} {py spos : Pos} {elt tg iter : Expr} {ifs : List Expr} {scope : Scope} {own : List (Str × Nat)} {fi : FA} {g : FG} {ft : FT} {fe : FE} (hc : X.calm = true) (hN : X.N.Nodup) (hi : IV X tg iter fi) (ok : BlkOk X.N X.env.scope scope own)
    (hg : ∀ (s : Shared) (H : Hp) (C : Addr) (cl : List (Str × Addr)) (fp : List Addr), GW (X.blk s H scope (compEnvC scope cl C X.env) fp) (own.map (·.2)) tg g)
    (ht : ∀ (s : Shared) (H : Hp) (C : Addr) (cl : List (Str × Addr)) (fp : List Addr), TVs (X.blk s H scope (compEnvC scope cl C X.env) fp) ifs ft)
    (he : ∀ (s : Shared) (H : Hp) (C : Addr) (cl : List (Str × Addr)) (fp : List Addr), EV (X.blk s H scope (compEnvC scope cl C X.env) fp) elt fe) (hsw : swapsWith (.ListComp elt [⟨tg, iter, ifs, 0⟩] scope pos) (some (.Name y py)) spos.line X.env = pure true)
    (hy : X.N[i]? = some y := by rfl) (hyl : X.env.scope.names.lookup y = some .local := by rfl) (hs : ∀ x, foldedSetIterable iter X.env x = pure x := by intro _; rfl) :
    SV X (.Assign [.Name y py] (.ListComp elt [⟨tg, iter, ifs, 0⟩] scope pos) spos) (sSetL i (fLc fi g ft fe (own.map (·.2)))) := by
  refine weakS (ps_setLc (own := own) (g := tGw X.K (own.map fun (p : Str × Nat) => p.2) g) (tt := tTe X.K ft) (te := tE X.K fe) hc hN hy hyl hsw hi ok hg ht he hs) fun E σ H h => ?_
  obtain ⟨Hb, O, Hs, ρ, DD, r, hf, k⟩ := h
  refine lc_body ⟨Hb, O, Hs, ρ, _, r, hf, fun p xs H1 Hs1 ds ρ1 _ r1 hO h1 q1 => ?_⟩
  split at q1
  · rename_i hl
    obtain ⟨n1, a1⟩ := r1.out p _ upd_same
    exact k.nx _ _ _ _ (r1.take (c := .ol ds) hO (Nat.le_of_ble_eq_true hl) ⟨p, xs, rfl, n1, a1, h1⟩) q1
  · exact q1.elim
end
/-! ### the plain side: loops that run like a function -/
theorem ifb {p A B : Prop} [Decidable p] (h1 : p → A) (h2 : ¬p → B) : if decide p = true then A else B := by
  by_cases h : p
  · rw [if_pos (decide_eq_true h)]; exact h1 h
  · rw [if_neg (by simpa using h)]; exact h2 h
theorem ifB {b : Bool} {A B : Prop} (h1 : b = true → A) (h2 : b = false → B) : if b = true then A else B := by
  cases b with
  | true => exact h1 rfl
  | false => exact h2 rfl
def runW {S : Type} (cond : S → Bool) (step : S → S) : Nat → S → Option S
  | 0, _ => none
  | n + 1, s => if cond s = true then runW cond step n (step s) else some s
theorem while_run {S : Type} (emb : S → Cs) (cond : S → Bool) (step : S → S) (I : S → Prop) {c : FT} {f : FS} {DD : EndsD} {n : Nat} {s s' : S} (hr : runW cond step n s = some s') (i0 : I s) (hi : ∀ s, I s → cond s = true → I (step s))
    (hc : ∀ (s : S) (Q : Bool → Cs → Prop), I s → Q (cond s) (emb s) → c (emb s) Q) (hb : ∀ (s : S) (DD : EndsD), I s → cond s = true → DD.nx (emb (step s)) → f DD (emb s)) (hx : I s' → cond s' = false → DD.nx (emb s')) : sWhile c f DD (emb s) := by
  refine ⟨fun m ρ => ∃ s, ρ = emb s ∧ I s ∧ runW cond step m s = some s', ⟨n, s, rfl, i0, hr⟩, ?_⟩
  rintro m ρ ⟨s, rfl, i, r⟩
  refine hc s _ i ?_
  cases m with
  | zero => cases r
  | succ m =>
    unfold runW at r
    cases e : cond s with
    | true =>
      rw [e, if_pos rfl] at r
      rw [if_pos rfl]
      exact hb s _ i e ⟨m, Nat.lt_succ_self m, step s, rfl, hi s i e, r⟩
    | false =>
      rw [e, if_neg Bool.false_ne_true] at r
      rw [if_neg Bool.false_ne_true]
      cases r
      exact hx i e
theorem for_run {S : Type} {items : List D} {g : FG} {f : FS} {DD : EndsD} {ρ1 : Cs} (emb : S → Cs) (step : S → D → S) (I : Nat → S → Prop) (s0 : S) (e : ρ1 = emb s0) (i0 : I 0 s0) (hi : ∀ (i : Nat) (d : D) (s : S), items[i]? = some d → I i s → I (i + 1) (step s d))
    (hs : ∀ (i : Nat) (d : D) (s : S) (DD : EndsD), items[i]? = some d → I i s → DD.nx (emb (step s d)) → g d (emb s) fun ρ2 => f DD ρ2) (hx : I items.length (items.foldl step s0) → DD.nx (emb (items.foldl step s0))) :
    ∃ Pv : Nat → Cs → Prop, Pv 0 ρ1 ∧ (∀ (i : Nat) (d : D) (ρ : Cs), items[i]? = some d → Pv i ρ → g d ρ fun ρ2 => f { DD with nx := Pv (i + 1), ct := Pv (i + 1), bk := DD.nx } ρ2) ∧ ∀ ρ, Pv items.length ρ → DD.nx ρ := by
  refine ⟨fun i ρ => ∃ s, ρ = emb s ∧ I i s ∧ (items.drop i).foldl step s = items.foldl step s0, ⟨s0, e, i0, rfl⟩, ?_, ?_⟩
  · rintro i d ρ ei ⟨s, rfl, ii, er⟩
    refine hs i d s _ ei ii ⟨step s d, rfl, hi i d s ei ii, ?_⟩
    obtain ⟨hl, ed⟩ := List.getElem?_eq_some_iff.mp ei
    rw [List.drop_eq_getElem_cons hl, ed] at er
    exact er
  · rintro ρ ⟨s, rfl, ii, er⟩
    rw [List.drop_length] at er
    have er : s = items.foldl step s0 := er
    subst er
    exact hx ii
def LcB (g : FG) (ft : FT) (fe : FE) (vs : List Nat) (R : List D → Cs → Prop) (items : List D) (ρ1 : Cs) : Prop := items.length ≤ 1000000 ∧ ∃ Pv : Nat → List D → Cs → Prop, Pv 0 [] (wipeC ρ1 vs) ∧
  (∀ (i : Nat) (d : D) (acc : List D) (ρ : Cs), items[i]? = some d → Pv i acc ρ → g d ρ fun ρ2 => ft ρ2 fun b ρ3 => if b = true then fe ρ3 fun y ρ4 => Pv (i + 1) (acc ++ [y]) (wipeC ρ4 vs) else Pv (i + 1) acc (wipeC ρ3 vs)) ∧
  ∀ acc ρ, Pv items.length acc ρ → R acc (restoreC ρ1 ρ vs)
theorem fLc_i {fi : FA} {g : FG} {ft : FT} {fe : FE} {vs : List Nat} {ρ : Cs} {R : List D → Cs → Prop} (h : fi ρ (LcB g ft fe vs R)) : fLc fi g ft fe vs ρ R := h
theorem lc_run {items : List D} {g : FG} {ft : FT} {fe : FE} {vs : List Nat} {ρ1 : Cs} {R : List D → Cs → Prop} (cond : D → Bool) (val : D → D) (hl : items.length ≤ 1000000)
    (hs : ∀ d ∈ items, ∀ (P1 : D → Cs → Prop) (P0 : Cs → Prop), (cond d = true → ∀ ρ, wipeC ρ vs = wipeC ρ1 vs → P1 (val d) ρ) → (cond d = false → ∀ ρ, wipeC ρ vs = wipeC ρ1 vs → P0 ρ) → g d (wipeC ρ1 vs) fun ρ2 => ft ρ2 fun b ρ3 => if b = true then fe ρ3 P1 else P0 ρ3)
    (hR : R ((items.filter cond).map val) (restoreC ρ1 (wipeC ρ1 vs) vs)) :
    LcB g ft fe vs R items ρ1 := by
  refine ⟨hl, fun i acc ρ => ρ = wipeC ρ1 vs ∧ acc = ((items.take i).filter cond).map val, ⟨rfl, by simp⟩, ?_, ?_⟩
  · rintro i d acc ρ ei ⟨rfl, rfl⟩
    obtain ⟨hl, ed⟩ := List.getElem?_eq_some_iff.mp ei
    have hm : d ∈ items := List.mem_of_getElem? ei
    have tk : items.take (i + 1) = items.take i ++ [d] := by rw [← ed]; exact List.take_succ_eq_append_getElem hl
    refine hs d hm _ _ (fun c ρ w => ⟨w, ?_⟩) (fun c ρ w => ⟨w, ?_⟩)
    · rw [tk, List.filter_append, List.map_append, List.filter_cons_of_pos c]
      rfl
    · rw [tk, List.filter_append, List.filter_cons_of_neg (by rw [c]; exact Bool.false_ne_true)]
      simp
  · rintro acc ρ ⟨rfl, rfl⟩
    rw [List.take_length]
    exact hR
end PD

namespace PD
open PySem PySem.Spec L2 PyProof.Rows

/-! ### {k: v for ..} -/
abbrev FD := Cs → (List (Key × D) → Cs → Prop) → Prop
/-- a new dict, owned by nobody yet -/
def tDi (K : PySem.W.Frag) (f : FD) : TE := fun σ H Q => ∃ Hb O Hs ρ R, Rel K Hb O Hs H σ ρ ∧ f ρ R ∧ ∀ p kv H' Hs' ds ρ', Same Hs Hs' → Rel K Hb (upd O p (.dK kv)) Hs' H' σ ρ' → O p = none → DdKv K Hs' kv ds → R ds ρ' → Q (.ref p) H'
def DV (X : Cx) (e : Expr) (f : FD) : Prop := PE X e (tDi X.K f)
def fDi (f : FD) : FE := fun ρ R => f ρ fun ds ρ1 => R (.dic ds) ρ1
theorem dv_ev {X : Cx} {e : Expr} {f : FD} (h : DV X e f) : EV X e (fDi f) := by
  refine weakE h fun σ H Q hh => ?_
  obtain ⟨Hb, O, Hs, ρ, R, rl, hf, k⟩ := hh
  refine ⟨Hb, O, Hs, ρ, _, rl, hf, fun p kv H1 Hs1 ds ρ1 s1 r1 hO h1 q1 => ?_⟩
  obtain ⟨r2, sm⟩ := r1.share hO
  exact k _ _ _ _ ρ1 (s1.trans sm) r2 (.dic upd_same (h1.mono sm)) q1
def DcB (g : FG) (ft : FT) (fk fv : FE) (vs : List Nat) (R : List (Key × D) → Cs → Prop) (items : List D) (ρ1 : Cs) : Prop := items.length ≤ 1000000 ∧ ∃ Pv : Nat → List (Key × D) → Cs → Prop, Pv 0 [] (wipeC ρ1 vs) ∧
  (∀ (i : Nat) (d : D) (acc : List (Key × D)) (ρ : Cs), items[i]? = some d → Pv i acc ρ → g d ρ fun ρ2 => ft ρ2 fun b ρ3 => if b = true then fk ρ3 fun y ρ4 => fv ρ4 fun z ρ5 => ∃ k, dKey y = some k ∧ Pv (i + 1) (putD acc k z) (wipeC ρ5 vs) else Pv (i + 1) acc (wipeC ρ3 vs)) ∧
  ∀ acc ρ, Pv items.length acc ρ → R acc (restoreC ρ1 ρ vs)
def fDc (fi : FA) (g : FG) (ft : FT) (fk fv : FE) (vs : List Nat) : FD := fun ρ R => fi ρ (DcB g ft fk fv vs R)
theorem fDc_i {fi : FA} {g : FG} {ft : FT} {fk fv : FE} {vs : List Nat} {ρ : Cs} {R : List (Key × D) → Cs → Prop} (h : fi ρ (DcB g ft fk fv vs R)) : fDc fi g ft fk fv vs ρ R := h
theorem putK_len {κ : Type} [DecidableEq κ] (kvs : List (κ × V)) (k : κ) (v : V) : (putK kvs k v).length ≤ kvs.length + 1 := by
  unfold putK
  split
  · rw [List.length_map]; omega
  · rw [List.length_append, List.length_singleton]; exact Nat.le_refl _
theorem dc_body {K : PySem.W.Frag} {fi : FA} {g : FG} {ft : FT} {fk fv : FE} {own : List (Str × Nat)} {σ : L2.St} {H : Hp} {Q : VK} (h : tDi K (fDc fi g ft fk fv (own.map (·.2))) σ H Q) :
    tDc (tIt K fi) (tGw K (own.map fun (p : Str × Nat) => p.2) g) (tTe K ft) (tE K fk) (tE K fv) (own.map (·.2)) σ H Q := by
  generalize hvs : own.map (fun p : Str × Nat => p.2) = vs at h ⊢
  obtain ⟨Hb, O, Hs, ρ, R, rl, hf, k⟩ := h
  refine ⟨Hb, O, Hs, ρ, _, rl, hf, fun J H1 Hs1 items ρ1 s1 r1 it q1 => ?_⟩
  obtain ⟨hlen, Pv, p0, step, fin⟩ := q1
  obtain ⟨G, Y, wk, gG, gY⟩ := it
  intro D hD
  obtain ⟨r2, hO⟩ := (r1.rebase (Same.refl Hs1)).lay (o := .dK []) hD
  refine walk_w wk (H := upd H1 D (.dK [])) (B := fun x H' Nx => tGw K vs g x (wipe σ vs) H' fun σ2 H2 => wipe σ2 vs = wipe σ vs ∧ tTe K ft σ2 H2 fun b H3 =>
    if b = true then tE K fk σ2 H3 fun y H4 => tE K fv σ2 H4 fun z H5 => ∃ kvs k, y = kV k ∧ H5 D = some (.dK kvs) ∧ kvs.length < sizeLine ∧ Nx (upd H5 D (.dK (putK kvs k z))) else Nx H3)
    (fun i H => i ≤ items.length ∧ ∃ Hs acc ds ρ, Rel K Hs1 (upd O D (.dK acc)) Hs H (wipe σ vs) ρ ∧ DdKv K Hs acc ds ∧ acc.length ≤ i ∧ Pv i ds ρ) ⟨Nat.zero_le _, Hs1, [], [], _, r2.wipe _, .nil, Nat.le_refl _, p0⟩
    (fun i H _ ⟨_, Hs, acc, ds, ρ, r, _⟩ => gG Hs H r.base r.sub) ?_ ?_
  · rintro i x H H' hi ⟨_, Hs, acc, ds, ρ, r, ha, hl, p⟩ y
    obtain ⟨d, Hs', ed, ex, hd⟩ := gY i Hs H x H' r.base r.sub hi y
    refine ⟨Hs1, _, Hs', ρ, d, _, r.ext ex, hd, step i d ds ρ ed p, fun σ2 H2 Hs2 ρ2 s2 w2 r2 q2 => ⟨w2.trans (wipe_wipe _ _), ?_⟩⟩
    have w2 : wipe σ2 vs = wipe σ vs := w2.trans (wipe_wipe _ _)
    refine ⟨Hs1, _, Hs2, ρ2, _, r2, q2, fun b H3 Hs3 ρ3 s3 r3 q3 => ?_⟩
    cases b with
    | false =>
      rw [if_neg Bool.false_ne_true] at q3 ⊢
      have r4 := r3.wipe vs
      rw [w2] at r4
      exact ⟨hi, Hs3, acc, ds, _, r4, ((ha.mono ex.sh).mono s2).mono s3, by omega, q3⟩
    | true =>
      rw [if_pos rfl] at q3 ⊢
      refine ⟨Hs1, _, Hs3, ρ3, _, r3, q3, fun y H4 Hs4 dy ρ4 s4 r4 h4 q4 => ⟨Hs1, _, Hs4, ρ4, _, r4, q4, fun z H5 Hs5 dz ρ5 s5 r5 h5 q5 => ?_⟩⟩
      obtain ⟨key, ek, q5⟩ := q5
      have ey := key_v (h4.mono s5) ek
      refine ⟨acc, key, ey, (r5.out D _ upd_same).2, small_line' (by omega), hi, Hs5, putK acc key z, putD ds key dz, _, ?_, .of ((((((ha.mono ex.sh).mono s2).mono s3).mono s4).mono s5).pr.put key h5), by have := putK_len acc key z; omega, q5⟩
      have r6 := (r5.turn (u := .dK (putK acc key z)) hO).wipe vs
      rw [w2] at r6
      exact r6
  · rintro H ⟨_, Hs, acc, ds, ρ, r, ha, _, p⟩
    have rr := Rel.restore r1 r.base r
    exact k D acc H Hs ds _ (s1.trans r.base) (rr.rebase (r1.base.trans r.base)) hO ha (fin ds ρ p)
section
variable {X : Cx} {pos : Pos}
theorem dv_dc {kx vx tg iter : Expr} {ifs : List Expr} {scope : Scope} {own : List (Str × Nat)} {fi : FA} {g : FG} {ft : FT} {fk fv : FE} (hc : X.calm = true) (hN : X.N.Nodup) (hi : IV X tg iter fi) (ok : BlkOk X.N X.env.scope scope own)
    (hg : ∀ (s : Shared) (H : Hp) (C : Addr) (cl : List (Str × Addr)) (fp : List Addr), GW (X.blk s H scope (compEnvC scope cl C X.env) fp) (own.map (·.2)) tg g)
    (ht : ∀ (s : Shared) (H : Hp) (C : Addr) (cl : List (Str × Addr)) (fp : List Addr), TVs (X.blk s H scope (compEnvC scope cl C X.env) fp) ifs ft)
    (hk : ∀ (s : Shared) (H : Hp) (C : Addr) (cl : List (Str × Addr)) (fp : List Addr), EV (X.blk s H scope (compEnvC scope cl C X.env) fp) kx fk)
    (he : ∀ (s : Shared) (H : Hp) (C : Addr) (cl : List (Str × Addr)) (fp : List Addr), EV (X.blk s H scope (compEnvC scope cl C X.env) fp) vx fv) (hs : ∀ x, foldedSetIterable iter X.env x = pure x := by intro _; rfl) :
    DV X (.DictComp kx vx [⟨tg, iter, ifs, 0⟩] scope pos) (fDc fi g ft fk fv (own.map (·.2))) :=
  weakE (pe_dc (own := own) (g := tGw X.K (own.map fun (p : Str × Nat) => p.2) g) (tt := tTe X.K ft) (tk := tE X.K fk) (tv := tE X.K fv) hc hN hi ok hg ht hk he hs) fun _ _ _ => dc_body
end
/-! ### sorted of a dict, its keys ints, any number of them -/
section
variable {X : Cx} {p pos : Pos}
def rSortDA : List V → Hp → VK → Prop := fun xs H Q => ∃ (a : Addr) (kvs : List (Key × V)) (ks : List Int), xs = [.ref a] ∧ Rd H a (.dK kvs) ∧ kvs.map (·.1) = ks.map Sum.inl ∧
  ∀ (ys : List Int) (p : Addr), ys.Perm ks → ys.Pairwise (· ≤ ·) → H p = none → Q (.ref p) (upd H p (.lst (ys.map V.int)))
theorem cr_sortDA (hcalm : X.calm = true) : CallR X (.builtin "sorted") rSortDA := by
  intro pin0 s σ H as0 us Q J0 r q
  obtain ⟨a, kvs, ks, rfl, hd, kks, q⟩ := q
  obtain rfl := Vals.ref1 r
  obtain ⟨z, lo, ws, rl0, dd⟩ := dk_rd J0.hok hd
  obtain ⟨ep, hat⟩ := dd.dictAt
  have keq : ws.map (·.1) = ks.map Sum.inl := rl0.keys.symm.trans kks
  have lws : ws.length = ks.length := by
    simpa using congrArg List.length keq
  have hkz : kvs.length = ks.length := by
    have e := congrArg List.length kks
    simpa using e
  have hz : ks.length ≤ sizeLine := by omega
  refine Calls.call_function_entry kind_sorted plain_sorted entry_sorted (args_sorted1 _) ?_; unfold Builtin.«sorted»
  refine wpAny_bind (m := checkCount "sorted" 1 1 _) (wpAny_pure (?_))
  refine wpAny_bind (PySem.W.kdu_collect (A := X.A.in1) (PySem.W.kdl_dict (knd := mixKind X.prog X.w) (kvs := ws) (ep := ep) lo) (J0.ok.hd hcalm) hat (by omega) fun g0 tq got hk hgot => ?_)
  have lgot : got.toList.length = ks.length := by rw [Array.length_toList, hgot.1, lws]
  have ints0 : IntsAre got.toList ks := ints_each lgot fun j v e => by
    obtain ⟨k, x, f1, f2⟩ := hgot.2 j v (by rw [← Array.getElem?_toList]; exact e)
    have f3 : (ws.map (·.1))[j]? = some k := by rw [List.getElem?_map, f1]; rfl
    rw [keq, List.getElem?_map] at f3
    cases f4 : ks[j]? with
    | none => rw [f4] at f3; cases f3
    | some y =>
      rw [f4] at f3
      obtain rfl : Sum.inl y = k := Option.some.inj f3
      rcases keyIs_shape (show keyIs (Sum.inl y) v = true from f2) with ⟨i, t, ek, ev⟩ | ⟨z, t, ek, ev⟩
      · cases ek
        exact ⟨y, t, rfl, ev⟩
      · cases ek
  have J1 : Inv X pin0 σ H { s with heap := g0, toks := tq } := J0.kept hk
  refine wpAny_bind (wpAny_newList ?_ (by rw [lgot]; exact hz))
  have atL : (g0.push (seqObj "list" got.toList.toArray 0)).get? g0.objs.size = some (seqObj "list" got.toList.toArray 0) := Heap.get?_push_size _ rfl
  show wpAny _ _ _ _ _ { s with heap := g0.push (seqObj "list" got.toList.toArray 0), toks := tq }
  refine wpAny_bind (wpAny_holding (wpAny_call_entry slot_list_sort ⟨_, atL, rfl⟩ entry_list_sort
    (SrtO.list_sort_ord (s := { s with heap := g0.push (seqObj "list" got.toList.toArray 0), toks := tq }) SrtO.swo_int atL (by rw [lgot]; exact hz) (fun h2 => SrtO.ints_sortable ints0 h2) fun out h1 h2 => ⟨_, rfl, ?_⟩) (args_list_sort _)))
  obtain ⟨o1, o2, o3⟩ := SrtO.ints_out ints0 h1 h2
  obtain ⟨e', he'⟩ := sortedHeap_at (vs := got.toList) (out := out.toArray) atL
  have lenO : ((out.map SrtO.iv).map V.int).length ≤ sizeLine := by
    rw [List.length_map, o2.length_eq]; exact hz
  refine wpAny_pure ⟨_, rfl, .ref g0.objs.size, upd H g0.objs.size (.lst ((out.map SrtO.iv).map V.int)), J1.laid (t' := tq) (fun b u e => ?_) (Nat.le_refl _)
    (show ObjOk X.prog X.w _ _ _ (.lst ((out.map SrtO.iv).map V.int)) from ⟨lenO, out, e', vals_of_ints o1, he'⟩), rfl, q _ _ o2 o3 (J1.hok.fresh (Nat.le_refl _))⟩
  have ltb : b < g0.objs.size := Heap.lt_size e
  rw [sortedHeap_old (Nat.ne_of_lt ltb) (by rw [size_push']; exact Nat.lt_succ_of_lt ltb)]
  exact (Heap.get?_push_of_some _ e)
def gSortDA : List D → (List D → Prop) → Prop := fun ds P => match ds with
  | [.dic kvs] => ∃ ks : List Int, kvs.map (·.1) = ks.map Sum.inl ∧ ∀ ms : List Int, ms.Perm ks → ms.Pairwise (· ≤ ·) → P (ms.map .int)
  | _ => False
theorem lv_sortDA {e : Expr} {es : List Expr} {fa : FA} (hc : X.calm = true) (hm : X.mg "sorted" = none) (ha : AV X (e :: es) fa) (hg : Gl X "sorted" := by rfl) (he : starEach (e :: es) X.env = (false, eval e X.env) :: starEach es X.env := by rfl) (hpl : (backTo pos (starEach es X.env)).any (·.1) = false := by rfl) : LV X (.Call (.Name "sorted" p) (e :: es) [] pos) (fCaL gSortDA fa) := by
  refine lv_blt (cr_sortDA hc) ?_ boot_sorted hm ha hg (by decide) (by decide) he hpl
  intro Hs H xs ds Q P s h q k
  unfold gSortDA at q
  split at q
  · obtain ⟨v, rfl, hv⟩ := one_dd h
    obtain ⟨ks, hk, q⟩ := q
    cases hv with
    | dic h1 h2 => exact ⟨_, _, ks, rfl, .inl (s _ _ h1), h2.pr.keys.trans hk, fun ms p hp ho hH => k p _ _ hH (dd_ints ms) (q ms hp ho)⟩
  · exact q.elim
end
end PD

namespace PD
open PySem PySem.Spec L2 PyProof.Rows

/-! ### set(xs), xs a list of ints -/
abbrev nset (u : World) : Obj := { cls := .type "set", dict := none, data := .set #[] 0 (.fresh 0 0 (!u.params.followText "set-order")) }
section
variable {P : Program} {u : World} {A : Around} {E : Value → Shared → Prop} {t : Shared}
theorem set_of_list {l : Addr} {its : Array Value} (ns : List Int) {Q : Value → Shared → Prop} (calm : A.handled = none) (il : t.heap.IsList l its) (ii : IntsAre its.toList ns) (small : ns.length + 1 < scanBound)
    (fin : ∀ (g : Heap) (tk c : Nat), SetR u g t.heap.objs.size (fun j => decide (j ∈ ns)) c → c ≤ ns.length → (∀ b o, t.heap.get? b = some o → g.get? b = some o) → Q (.ref t.heap.objs.size) { t with heap := g, toks := tk }) :
    wpAny (model P u) A (call (.type "set") [.ref l]) Q E t := by
  have size_ : its.size = ns.length := by
    rw [← Array.length_toList]
    exact IntsAre.length ii
  obtain ⟨cc, tl, m0⟩ := F.called_set.mro
  have m1 := F.called_set.made
  have m2 := F.called_set.sub
  refine wpAny_call (codeAny_of_tree ?_); show wpAny _ _ (callAny (.type "set") _) _ _ _
  refine wpAny_pure ⟨Code.quiet_builtin _ (by decide +kernel), codeAny_builtin F.entry_type_call ?_⟩; rw [Around.under_plain (weight_type_call_type "set" [.ref l] []) rfl]
  have m3 := F.called_set.notType
  have m4 := F.called_set.canCreate
  have m5 := F.typeCall_set_1 (.ref l)
  (repeat (any_goals (first | wp_step | assumption)))
  refine codeAny_mono (code_set_led1 (.ref l) (E := E) (Q₁ := fun x t1 => x = .ref t.heap.objs.size ∧ t1 = { t with heap := t.heap.push (nset u) }) ⟨rfl, rfl⟩) fun r t1 hr => ?_
  cases r with
  | error _ => exact hr
  | ok fl =>
    cases fl with
    | ret x =>
      obtain ⟨rfl, rfl⟩ := hr
      have at0 : (t.heap.push (nset u)).get? t.heap.objs.size = some (nset u) := Heap.get?_push_size _ rfl
      have ty0 : Shared.TypeIs { t with heap := t.heap.push (nset u) } (.ref t.heap.objs.size) "set" := ⟨_, at0, rfl⟩
      have m6 := F.called_set.init.lookup
      have m7 := F.called_set.init.bind (.ref t.heap.objs.size)
      (repeat (any_goals (first | wp_step | assumption)))
      refine codeAny_mono (codeAny_call_builtin (R := wants (fun r t2 => r = .none ∧ ∃ g tk c, t2 = { t with heap := g, toks := tk } ∧ SetR u g t.heap.objs.size (fun j => decide (j ∈ ns)) c ∧ c ≤ ns.length ∧
          (∀ b o, t.heap.get? b = some o → g.get? b = some o)) E) F.called_set.init.plain F.entry_set_init (check_set_init_1 ty0 ?_)) fun r2 t2 hr2 => ?_
      · obtain ⟨⟨c1, c2, c3, c4⟩, ol, cl, n0, dl⟩ := il
        simp only at cl dl
        subst cl; subst dl
        have ol2 : (t.heap.push (nset u)).get? l = some { cls := .type "list", dict := c2, data := .seq its n0, slots := c4 } := Heap.get?_push_of_some _ ol
        have n1 := F.sub_list_set
        have n2 := F.sub_list_frozenset
        have n3 : (Value.type "list" == .type "dict") = false := by decide
        have il2 : (t.heap.push (nset u)).IsList l its := ⟨_, ol2, rfl, n0, rfl⟩
        unfold Builtin.«set.__init__» noKeywords Builtin.Frozenset.updateFrom; generalize hPI : pyIter = PI
        wp_walk
        subst hPI
        refine wpAny_pyIter_list il2 ?_
        refine wpAny_bind (wpAny_runValue ?_); have lt0 : l < t.heap.objs.size := Heap.lt_size ol
        have calm3 : A.in1.in1.in1.handled = none := by simp [calm]
        have ne1 : l ≠ (t.heap.push (nset u)).objs.size := by
          rw [Heap.size_push]
          exact Nat.ne_of_lt (Nat.lt_succ_of_lt lt0)
        have out1 : t.heap.objs.size ∉ [(t.heap.push (nset u)).objs.size, l] := by
          rw [Heap.size_push]
          simp only [List.mem_cons, List.not_mem_nil, or_false, not_or]
          exact ⟨Nat.ne_of_lt (Nat.lt_succ_self _), Nat.ne_of_gt lt0⟩
        have vals1' : ∀ (i : Nat) (v : Value), its[i]? = some v → ∃ k tk, ns[i]? = some k ∧ v = .int k tk := fun i v hv => by
          have hi : i < ns.length := by
            rw [← size_]
            exact (Array.getElem?_eq_some_iff.mp hv).1
          obtain ⟨tk, e⟩ := PyProof.Rows.IntsAre.int_at ii i v (by rw [Array.getElem?_toList]; exact hv)
          refine ⟨ns[i], tk, List.getElem?_eq_getElem hi, ?_⟩
          rw [e, List.getD_eq_getElem?_getD, List.getElem?_eq_getElem hi]
          rfl
        refine set_update_ints ((Walks.list calm3 _ l ne1 its).toS) t.heap.objs.size out1 ns size_ small vals1' (its.size - 0) 0 _ (by omega) (Nat.zero_le _) ⟨⟨_, Heap.get?_push_size _ rfl, rfl, rfl⟩, (il2.push _)⟩ ?_ ?_
        · exact ⟨0, Nat.le_refl 0, setR_new_at (Heap.get?_push_of_some _ at0)⟩
        · rintro ⟨g, g2, d2, tk2, o2⟩ c5 mv le5 R5
          obtain rfl : g2 = t.gens := mv.gens
          obtain rfl : d2 = t.drawn := mv.drawn
          obtain rfl : o2 = t.os := mv.os
          show wpAny _ _ _ _ _ _
          refine wpAny_pure ?_
          show wpAny _ _ (ret .none) _ _ _
          rw [size_] at le5
          refine wpAny_pure ⟨rfl, g, tk2, c5, rfl, R5, le5, fun b o e => ?_⟩
          have lb : b < t.heap.objs.size := Heap.lt_size e
          refine mv.heap b o ?_ (Heap.get?_push_of_some _ (Heap.get?_push_of_some _ e))
          simp only [List.mem_cons, List.not_mem_nil, or_false, not_or, Heap.size_push]
          exact ⟨Nat.ne_of_lt lb, Nat.ne_of_lt (Nat.lt_succ_of_lt lb)⟩
      · cases r2 with
        | error _ => exact hr2
        | ok fl2 =>
          cases fl2 with
          | ret _ =>
            obtain ⟨rfl, g, tk, c, rfl, R5, le5, k5⟩ := hr2
            (repeat (any_goals (first | wp_step | assumption)))
            exact fin _ _ _ R5 le5 k5
          | _ => exact hr2.elim
    | _ => exact hr.elim
end
end PD

namespace PD
open PySem PySem.Spec L2 PyProof.Rows

/-! ### sorted(set(xs)) of ints -/
def rSetLI (K : PySem.W.Frag) (u : World) : List V → Hp → VK → Prop := fun xs H Q => ∃ (a : Addr) (ns : List Int), xs = [.ref a] ∧ SqL K H a (ns.map V.int) ∧ ns.length ≤ 4000 ∧ ∀ p n, H p = none → n ≤ ns.length → Q (.ref p) (upd H p (SetO u p (fun j => decide (j ∈ ns)) n))
def rSortSA (u : World) : List V → Hp → VK → Prop := fun xs H Q => ∃ (a : Addr) (S : Int → Bool) (n : Nat), xs = [V.ref a] ∧ H a = some (SetO u a S n) ∧
  ∀ (ns : List Int) (p : Addr), ns.Pairwise (· < ·) → (∀ k : Int, k ∈ ns ↔ S k = true) → H p = none → Q (.ref p) (upd H p (.lst (ns.map V.int)))
section
variable {X : Cx} {p pos : Pos}
theorem cr_setLI (hc : X.calm = true) : CallR X (.type "set") (rSetLI X.K X.w) := by
  intro pn s σ H xs us Q J r h
  obtain ⟨a, ns, rfl, hs, hl, q⟩ := h
  obtain rfl := Vals.ref1 r
  obtain ⟨its, rv, il, _⟩ := J.list hs
  refine set_of_list ns (J.ok.hd hc) il.isList (show IntsAre its.toArray.toList ns from ints_of_vals rv) (by unfold scanBound; omega) fun g tk c R5 le5 k5 => ?_
  have hn : H s.heap.objs.size = none := J.hok.fresh (Nat.le_refl _)
  exact ⟨.ref s.heap.objs.size, _, J.laid (t' := tk) k5 (Nat.le_refl _) (setO_new R5), rfl, q _ c hn le5⟩
theorem lt_nodup : ∀ ns : List Int, ns.Pairwise (· ≤ ·) → ns.Nodup → ns.Pairwise (· < ·)
  | [], _, _ => .nil
  | n :: ns, h, d => by
    obtain ⟨h1, h2⟩ := List.pairwise_cons.mp h
    obtain ⟨d1, d2⟩ := List.nodup_cons.mp d
    refine List.pairwise_cons.mpr ⟨fun m hm => ?_, lt_nodup ns h2 d2⟩
    have := h1 m hm
    have : n ≠ m := fun z => d1 (z ▸ hm)
    omega
theorem cr_sortSA (hc : X.calm = true) : CallR X (.builtin "sorted") (rSortSA X.w) := by
  intro pn s σ H xs us Q J r h
  obtain ⟨a, S, n, rfl, ha, q⟩ := h
  obtain rfl := Vals.ref1 r
  obtain ⟨o, es, ep, t, ho, hex, hd, good, nd, hm, hb, hf, hn, hr, hl⟩ := setO_get J ha
  refine Calls.call_function_entry kind_sorted plain_sorted entry_sorted (args_sorted1 _) ?_; unfold Builtin.«sorted»
  refine wpAny_bind (m := checkCount "sorted" 1 1 _) (wpAny_pure (?_))
  refine wpAny_bind (collect_set (A := X.A.in1) (J.ok.hd hc) ⟨o, ho, hex.1, hd⟩ hf hb hr hl fun s1 ws k1 le1 g1 os1 pm => ?_)
  have lw : ws.length = es.size := by rw [pm.length_eq, List.length_map, Array.length_toList]
  have small : ws.length ≤ sizeLine := by
    rw [lw]
    exact Nat.le_trans (Nat.le_of_lt hb) (by decide)
  have iw : IntsAre ws (ws.map SrtO.iv) := SrtO.ints_iv fun v hv => by
    obtain ⟨e, he, rfl⟩ := List.mem_map.mp (pm.mem_iff.mp hv)
    obtain ⟨k, tk, e1, _⟩ := good e he
    exact ⟨k, tk, e1⟩
  have pk : (ws.map SrtO.iv).Perm (es.toList.map keyOf) := by
    have z := pm.map SrtO.iv
    rw [List.map_map] at z
    have e : es.toList.map (SrtO.iv ∘ fun x => x.2) = es.toList.map keyOf := List.map_congr_left fun x hx => by
      obtain ⟨k, tk, e1, _⟩ := good x hx
      show SrtO.iv x.2 = keyOf x
      unfold keyOf
      rw [e1]
      rfl
    rw [e] at z
    exact z
  refine wpAny_bind (wpAny_newList ?_ small)
  have atL : (s1.heap.push (seqObj "list" ws.toArray 0)).get? s1.heap.objs.size = some (seqObj "list" ws.toArray 0) := Heap.get?_push_size _ rfl
  refine wpAny_bind (wpAny_holding (wpAny_call_entry slot_list_sort ⟨_, atL, rfl⟩ entry_list_sort (SrtO.list_sort_ord (s := { s1 with heap := s1.heap.push (seqObj "list" ws.toArray 0) }) SrtO.swo_int atL small (fun h2 => SrtO.ints_sortable iw h2) fun out h1 h2 => ⟨_, rfl, ?_⟩) (args_list_sort _)))
  obtain ⟨o1', o2, o3⟩ := SrtO.ints_out iw h1 h2
  obtain ⟨e', he'⟩ := sortedHeap_at (vs := ws) (out := out.toArray) atL
  have pn2 : (out.map SrtO.iv).Perm (es.toList.map keyOf) := o2.trans pk
  have keep : ∀ b v, s.heap.get? b = some v → (sortedHeap (s1.heap.push (seqObj "list" ws.toArray 0)) s1.heap.objs.size ws out.toArray).get? b = some v := fun b v e => by
    have e2 := k1 b v e
    have lb := Heap.lt_size e2
    rw [sortedHeap_old (Nat.ne_of_lt lb) (by rw [size_push']; exact Nat.lt_succ_of_lt lb)]
    exact (Heap.get?_push_of_some _ e2)
  have lo : ((out.map SrtO.iv).map V.int).length ≤ sizeLine := by
    rw [List.length_map, o2.length_eq, List.length_map]; exact small
  have fr : H s1.heap.objs.size = none := J.hok.fresh le1
  have K2 : Inv X pn σ (upd H s1.heap.objs.size (.lst ((out.map SrtO.iv).map V.int))) { s with heap := sortedHeap (s1.heap.push (seqObj "list" ws.toArray 0)) s1.heap.objs.size ws out.toArray, gens := s1.gens, drawn := s1.drawn, toks := s1.toks } :=
    J.call (ch := []) (Un.laid keep le1 fr) (J.hok.laid keep le1 ⟨lo, out, e', vals_of_ints o1', he'⟩) (by rw [g1]; exact J.bare) fun _ z => nomatch z
  obtain ⟨h1', g1', d1', t1', os1'⟩ := s1
  obtain ⟨h0', g0', d0', t0', os0'⟩ := s
  obtain rfl : os1' = os0' := os1
  refine wpAny_pure ⟨_, rfl, .ref h1'.objs.size, _, K2, rfl, q _ h1'.objs.size (lt_nodup _ o3 (pn2.nodup_iff.mpr nd)) (fun k => ?_) fr⟩
  rw [pn2.mem_iff]
  exact (hm k).symm
/-- sorted(set(xs)) as a rule over data -/
def fSortSet (fe : FE) : FA := fun ρ R => fe ρ fun d ρ1 => match d with
  | .lst ds => ∃ ns : List Int, D.ints ds = some ns ∧ ns.length ≤ 4000 ∧ ∀ ms : List Int, ms.Pairwise (· < ·) → (∀ k, k ∈ ms ↔ k ∈ ns) → R (ms.map .int) ρ1
  | _ => False
theorem lv_sortSet {e : Expr} {p2 pos2 : Pos} {fe : FE} (hc : X.calm = true) (hm : X.mg "sorted" = none) (hm2 : X.mg "set" = none) (he : EV X e fe) (hg : Gl X "sorted" := by rfl) (hg2 : Gl X "set" := by rfl) (h1 : starEach [e] X.env = (false, eval e X.env) :: starEach [] X.env := by rfl)
    (h2 : starEach [.Call (.Name "set" p2) [e] [] pos2] X.env = (false, eval (.Call (.Name "set" p2) [e] [] pos2) X.env) :: starEach [] X.env := by rfl) (hpl : (backTo pos (starEach [] X.env)).any (·.1) = false := by rfl) (hpl2 : (backTo pos2 (starEach [] X.env)).any (·.1) = false := by rfl) :
    LV X (.Call (.Name "sorted" p) [.Call (.Name "set" p2) [e] [] pos2] [] pos) (fSortSet fe) := by
  refine weakE (pe_callB (cr_sortSA hc) hg hm boot_sorted (pa_cons (pe_callTy (cr_setLI hc) hg2 hm2 boot_set (pa_cons he pa_nil h1) (by decide) (by decide) h1 hpl2) pa_nil h2) (by decide) (by decide) h2 hpl) fun σ H Q h => ?_
  obtain ⟨Hb, O, Hs, ρ, R, rl, hf, k⟩ := h
  refine ⟨Hb, O, Hs, ρ, _, rl, hf, fun v H1 Hs1 d ρ1 s1 r1 h1 q1 => ?_⟩
  split at q1
  · obtain ⟨ns, hn, hl, hR⟩ := q1
    cases h1 with
    | lst a1 t1 =>
      have ev := ints_v t1 hn
      subst ev
      refine ⟨_, ns, rfl, SqL.of (r1.sub _ _ a1), hl, fun p n hp _ => ⟨p, _, n, rfl, upd_same, fun ms l lt mem hl => ?_⟩⟩
      have nl : l ≠ p := fun z => by subst z; rw [upd_same] at hl; cases hl
      have hl0 : H1 l = none := by rw [upd_ne nl] at hl; exact hl
      have ex : Ext Hs1 H1 Hs1 (upd (upd H1 p (SetO X.w p (fun j => decide (j ∈ ns)) n)) l (.lst (ms.map V.int))) := by
        have up : ∀ b o, H1 b = some o → (upd (upd H1 p (SetO X.w p (fun j => decide (j ∈ ns)) n)) l (.lst (ms.map V.int))) b = some o := fun b o e => by
          rw [upd_ne (ne_of_none e hl0), upd_ne (ne_of_none e hp)]; exact e
        exact ⟨Same.refl _, fun b o e => up b o (r1.sub b o e), fun b o n e => ⟨n, up b o e⟩⟩
      obtain ⟨r2, hO⟩ := r1.gain ex hl0 (r1.sub.free hl0) upd_same
      exact k l _ _ Hs1 _ ρ1 s1 r2 hO (dd_ints ms) (hR ms lt fun k => (mem k).trans decide_eq_true_iff)
  · exact q1.elim
end
/-! ### range(i, j, -1) -/
def rgDn (hi : Int) (n : Nat) : List D := (List.range n).map fun i => D.int (hi - (i : Nat))
theorem rgDn_len (lo : Int) (n : Nat) : (rgDn lo n).length = n := by unfold rgDn; rw [List.length_map, List.length_range]
theorem rgDn_at {hi : Int} {n i : Nat} (h : i < n) : (rgDn hi n)[i]? = some (.int (hi - (i : Nat))) := by
  unfold rgDn
  rw [List.getElem?_map, List.getElem?_range h]
  rfl
theorem rgDn_get {hi : Int} {n i : Nat} {d : D} (h : (rgDn hi n)[i]? = some d) : i < n ∧ d = .int (hi - (i : Nat)) := by
  have hl : i < n := by
    have := (List.getElem?_eq_some_iff.mp h).1
    rw [rgDn_len] at this
    exact this
  rw [rgDn_at hl] at h
  exact ⟨hl, (Option.some.inj h).symm⟩
theorem iters_rgDn {K : PySem.W.Frag} {H : Hp} (hi : Int) (n : Nat) : Iters K (Itc hi (-1) n) (rgDn hi n) H := by
  refine ⟨_, _, by rw [rgDn_len]; exact walk_rangeC, fun _ _ _ _ => trivial, ?_⟩
  rintro i Hs H x H' s1 s2 hh ⟨rfl, rfl⟩
  rw [rgDn_len] at hh
  refine ⟨_, Hs, rgDn_at hh, Ext.refl s2, ?_⟩
  have e : hi + (i : Nat) * (-1) = hi - (i : Nat) := by omega
  show Dd K Hs (V.int (hi + (i : Nat) * (-1))) _
  rw [e]
  exact .int _
def iRgDn (fa fb : FE) : FA := fun ρ R => fa ρ fun d ρ1 => fb ρ1 fun e ρ2 => match d, e with
  | .int i, .int j => RgOk i ∧ RgOk j ∧ R (rgDn i (i - j).toNat) ρ2
  | _, _ => False
section
variable {X : Cx} {p pos p1 p2 : Pos} {tg e e2 : Expr} {fa fb : FE}
theorem iv_rangeDn {j1 : Nat} (hm : X.mg "range" = none) (ha : EV X e fa) (hb : EV X e2 fb) (hg : Gl X "range" := by rfl)
    (h1 : starEach [e, e2, .UnaryOp .USub (.Constant (.int 1) j1 p1) p2] X.env = (false, eval e X.env) :: starEach [e2, .UnaryOp .USub (.Constant (.int 1) j1 p1) p2] X.env := by rfl)
    (h2 : starEach [e2, .UnaryOp .USub (.Constant (.int 1) j1 p1) p2] X.env = (false, eval e2 X.env) :: starEach [.UnaryOp .USub (.Constant (.int 1) j1 p1) p2] X.env := by rfl)
    (h3 : starEach [.UnaryOp .USub (.Constant (.int 1) j1 p1) p2] X.env = (false, eval (.UnaryOp .USub (.Constant (.int 1) j1 p1) p2) X.env) :: starEach [] X.env := by rfl)
    (hpl : (backTo pos (starEach [e2, .UnaryOp .USub (.Constant (.int 1) j1 p1) p2] X.env)).any (·.1) = false := by rfl) :
    IV X tg (.Call (.Name "range" p) [e, e2, .UnaryOp .USub (.Constant (.int 1) j1 p1) p2] [] pos) (iRgDn fa fb) := by
  refine weakI (pi_range3 hg hm (pa_cons ha (pa_cons hb (pa_cons (ev_neg (X := X) ev_int) pa_nil h3) h2) h1) h1 hpl) fun σ H R h => ?_
  obtain ⟨Hb, O, Hs, ρ, S, rl, hf, k⟩ := h
  refine ⟨Hb, O, Hs, ρ, _, rl, hf, fun v H1 Hs1 d ρ1 s1 r1 h1 q1 => ⟨Hb, O, Hs1, ρ1, _, r1, q1, fun w H2 Hs2 d2 ρ2 s2 r2 h2 q2 => ?_⟩⟩
  split at q2
  · cases h1
    cases h2
    obtain ⟨a, b, q2⟩ := q2
    refine ⟨Hb, O, Hs2, ρ2, fun d ρ => d = .int (-1) ∧ ρ = ρ2, r2, ⟨rfl, rfl⟩, fun z H3 Hs3 dz ρ3 s3 r3 h3 q3 => ?_⟩
    obtain ⟨rfl, rfl⟩ := q3
    cases h3
    exact ⟨_, _, _, _, rfl, RgC.neg a.1 a.2 b.1 b.2, k _ H3 Hs3 _ ρ3 ((s1.trans s2).trans s3) r3 (iters_rgDn _ _) q2⟩
  · exact q2.elim
end
end PD

namespace PD
open PySem PySem.Spec L2 PyProof.Rows

/-! ### k in d, k not in d: int and text keys -/
def fIn (neg : Bool) (i : Nat) (fk : FE) : FE := fun ρ R => match dicAt ρ[i]? with
  | some _ => fk ρ fun k ρ1 => match dicAt ρ1[i]?, dKey k with
    | some kvs, some k => R (.bl (if neg then !(valD kvs k).isSome else (valD kvs k).isSome)) ρ1
    | _, _ => False
  | none => False
section
variable {X : Cx} {pos : Pos} {e o : Expr} {fk : FE}
theorem in_same {K : PySem.W.Frag} {Hs : Hp} {vs : List (Key × V)} {kvs : List (Key × D)} (p : DdP K Hs vs kvs) (key : Key) : (valV vs key).isSome = (valD kvs key).isSome := by
  rcases p.val key with ⟨z1, z2⟩ | ⟨v, dv, z1, z2, _⟩
  · rw [z1, z2]; rfl
  · rw [z1, z2]; rfl
theorem cv_in (i : Nat) (hp : PC X .In e o (tDIn (tE X.K fk) (tVar i))) : CV X .In e o (fIn false i fk) := by
  refine weakC hp fun σ H Q h => ?_
  obtain ⟨Hb, O, Hs, ρ, R, rl, hf, k⟩ := h
  unfold fIn at hf
  split at hf
  · rename_i kv0 e0
    obtain ⟨a, vs0, es, _, _⟩ := dic_here rl e0
    refine ⟨Hb, O, Hs, ρ, _, rl, hf, fun y H1 Hs1 d ρ1 s1 r1 h1 q1 => ?_⟩
    split at q1
    · rename_i kvs key e2 ek
      obtain ⟨a', vs, es', h3, p3⟩ := dic_here r1 e2
      have ey := key_v h1 ek
      subst ey
      refine ⟨_, es', a', _, rfl, DGet.k h3, ?_⟩
      rw [in_same p3]
      exact k _ H1 Hs1 _ ρ1 s1 r1 (.bl _) q1
    · exact q1.elim
  · exact hf.elim
theorem cv_notIn (i : Nat) (hp : PC X .NotIn e o (tDNotIn (tE X.K fk) (tVar i))) : CV X .NotIn e o (fIn true i fk) := by
  refine weakC hp fun σ H Q h => ?_
  obtain ⟨Hb, O, Hs, ρ, R, rl, hf, k⟩ := h
  unfold fIn at hf
  split at hf
  · rename_i kv0 e0
    obtain ⟨a, vs0, es, _, _⟩ := dic_here rl e0
    refine ⟨Hb, O, Hs, ρ, _, rl, hf, fun y H1 Hs1 d ρ1 s1 r1 h1 q1 => ?_⟩
    split at q1
    · rename_i kvs key e2 ek
      obtain ⟨a', vs, es', h3, p3⟩ := dic_here r1 e2
      have ey := key_v h1 ek
      subst ey
      refine ⟨_, es', a', _, rfl, DGet.k h3, ?_⟩
      rw [in_same p3]
      exact k _ H1 Hs1 _ ρ1 s1 r1 (.bl _) q1
    · exact q1.elim
  · exact hf.elim
theorem ev_of {op : CmpOp} {f : FE} (h : CV X op e o f) (h1 : behindInMarks op o = false := by rfl) : EV X (.Compare e [op] [o] pos) f := pe_cmp h h1
theorem tv_of {op : CmpOp} {f : FE} (h : CV X op e o f) (h1 : behindInMarks op o = false := by rfl) : TV X (.Compare e [op] [o] pos) (fBo f) := weakT (pt_cmp h h1) fun _ _ _ => boBody
/-! ### xs[::-1] -/
def fRev (fe : FE) : FA := fun ρ R => fe ρ fun d ρ1 => match d with
  | .lst ds => R ds.reverse ρ1
  | _ => False
theorem lv_rev {p1 p2 p3 : Pos} {j : Nat} {fe : FE} (he : EV X e fe) : LV X (.Subscript e (.Slice none none (some (.UnaryOp .USub (.Constant (.int 1) j p1) p2)) p3) pos) (fRev fe) := by
  refine weakE (pe_revL he) fun σ H Q h => ?_
  obtain ⟨Hb, O, Hs, ρ, R, rl, hf, k⟩ := h
  refine ⟨Hb, O, Hs, ρ, _, rl, hf, fun v H1 Hs1 d ρ1 s1 r1 h1 q1 => ?_⟩
  split at q1
  · cases h1 with
    | @lst a xs ds a1 t1 =>
      refine ⟨a, xs, rfl, SqL.of (r1.sub _ _ a1), fun p hp => ?_⟩
      obtain ⟨r2, hO⟩ := r1.lay (o := .lst xs.reverse) hp
      exact k p _ _ Hs1 _ ρ1 s1 r2 hO t1.reverse q1
  · exact q1.elim
/-! ### xs.extend(e) -/
def sExt (i : Nat) (fe : FE) : FS := fun DD ρ => match ρ[i]? with
  | some (.ol _) => fe ρ fun d ρ1 => match ρ1[i]?, d with
    | some (.ol ds), .lst es => ds.length + es.length ≤ 1000000 ∧ DD.nx (ρ1.set i (.ol (ds ++ es)))
    | _, _ => False
  | _ => False
theorem sv_ext (i : Nat) {apos cpos : Pos} {fe : FE} (hp : PE X (.Call (.Attribute o "extend" apos) [e] [] cpos) (tBM X.K "list" rExtend (tVar i) (tCons (tE X.K fe) tNil)))
    (hs : swapsWith (.Call (.Attribute o "extend" apos) [e] [] cpos) none pos.line X.env = pure false := by rfl) : SV X (.Expr (.Call (.Attribute o "extend" apos) [e] [] cpos) pos) (sExt i fe) := by
  refine weakS (ps_expr hp hs) fun E σ H h => ?_
  obtain ⟨Hb, O, Hs, ρ, DD, rl, hf, k⟩ := h
  unfold sExt at hf
  split at hf
  · rename_i d0 e0
    obtain ⟨p, xs0, es, _, a0, _⟩ := rl.ok i _ e0
    refine ⟨_, es, .inl ⟨rfl, _, SqL.of a0⟩, Hb, O, Hs, ρ, _, rl, hf, fun y H1 Hs1 d ρ1 s1 r1 h1 q1 => ?_⟩
    split at q1
    · rename_i ds es2 e1
      obtain ⟨p', xs, es', n1, a1, t1⟩ := r1.ok i _ e1
      rw [es] at es'
      cases es'
      cases h1 with
      | @lst b ys _ b1 t2 =>
        refine ⟨p, b, xs, ys, rfl, rfl, a1, r1.sub _ _ b1, small_line (by rw [t1.length, t2.length]; exact q1.1), ?_⟩
        exact k.nx _ _ _ _ (r1.mut (c' := .ol (ds ++ es2)) e1 rfl es fun H' hH => ⟨p, _, rfl, n1, hH, t1.append t2⟩) q1.2
    · exact q1.elim
  · exact hf.elim
end
end PD

namespace PD
open PySem PySem.Spec L2 PyProof.Rows
/-! ### name = {..: .. for ..} on one line -/
section
variable {X : Cx} {pos py spos : Pos}
theorem sw_dict {kx vx : Expr} {gs : List Comprehension} {scope : Scope} {y : Str} {l : Nat} {env : Env} (h1 : env.scope.kind = .function) (h2 : env.scope.names.lookup y = some .local) (h3 : (py.line == pos.line) = true)
    (h4 : (scope.names.any fun (n, k) => n == y && (k == .local || k == .cell)) = false) : swapsWith (.DictComp kx vx gs scope pos) (some (.Name y py)) l env = pure true := by
  have e1 : env.kindOf y = some .local := h2
  have e2 : env.blockKind = .function := by
    unfold Env.blockKind
    rw [h1]
    rfl
  unfold swapsWith
  simp only [e2, e1, h4, Expr.pos, h3]
  rfl
theorem st_dc {i : Nat} {y : Str} {kx vx tg iter : Expr} {ifs : List Expr} {scope : Scope} {own : List (Str × Nat)} {wi : TI} {g : TG} {tt : TT} {tk tv : TE} (hc : X.calm = true) (hN : X.N.Nodup) (hy : X.N[i]? = some y) (hyl : X.env.scope.names.lookup y = some .local)
    (sw : swapsWith (.DictComp kx vx [⟨tg, iter, ifs, 0⟩] scope pos) (some (.Name y py)) spos.line X.env = pure true) (hi : PI X tg iter wi) (ok : BlkOk X.N X.env.scope scope own)
    (hg : ∀ (s : Shared) (H : Hp) (C : Addr) (cl : List (Str × Addr)) (fp : List Addr), PG (X.blk s H scope (compEnvC scope cl C X.env) fp) tg g)
    (ht : ∀ (s : Shared) (H : Hp) (C : Addr) (cl : List (Str × Addr)) (fp : List Addr), PTs (X.blk s H scope (compEnvC scope cl C X.env) fp) ifs tt)
    (hk : ∀ (s : Shared) (H : Hp) (C : Addr) (cl : List (Str × Addr)) (fp : List Addr), PE (X.blk s H scope (compEnvC scope cl C X.env) fp) kx tk)
    (he : ∀ (s : Shared) (H : Hp) (C : Addr) (cl : List (Str × Addr)) (fp : List Addr), PE (X.blk s H scope (compEnvC scope cl C X.env) fp) vx tv) (hs : ∀ x, foldedSetIterable iter X.env x = pure x) :
    PS X (.Assign [.Name y py] (.DictComp kx vx [⟨tg, iter, ifs, 0⟩] scope pos) spos) (tAsg (tDc wi g tt tk tv (own.map (·.2))) (gName i)) := by
  constructor
  intro pn s σ H E J q
  rw [exec_Assign_Name_used _ _ _ _ sw]
  refine wpAny_bind (wpAny_standAt (wpAny_bind ?_))
  show wpAny _ X.A (do let _ ← comprehension (.DictComp kx vx [⟨tg, iter, ifs, 0⟩] scope pos) scope X.env (firstIterPos [⟨tg, iter, ifs, 0⟩] pos) newDict false (eval iter X.env) (some (assign (.Name y py) X.env))) _ _ s
  have q : tDc wi g tt tk tv (own.map (·.2)) σ H (fun x H1 => gName i x σ H1 E.nx) := q
  refine wpAny_bind (thn (dc_core (Qf := fun _ s' => SP X pn E .next s') hc hN J hi ok hg ht hk he hs q fun L C s' m H' J' q' ns fp => ?_) fun _ s' z => wpAny_pure (wpAny_pure z))
  show wpAny _ _ (assign (.Name y py) X.env (.ref L)) _ _ _
  refine wpAny_assign_Name (store_ok2 (v := V.ref L) J' hN hy (.inl hyl) rfl (fun s2 J2 ⟨a, sb, at_⟩ => ?_) (.inr hyl))
  obtain ⟨f0, f1, f2, f3, f4, f5⟩ := fp
  have nC : C ≠ a := by
    rcases at_ with z | z
    · rw [z]
      exact f1
    · exact fun e => f4 y a z e.symm
  exact ⟨m, ns.sameBut sb nC, fun h3 sb3 => ⟨_, H', J2.turned (t' := s2.toks) (fun b o hb e => (sb3.2 b hb).trans e) f0 f1 f3 f4 f5, q'⟩⟩
def sSetD (i : Nat) (fe : FD) : FS := fun DD ρ => fe ρ fun ds ρ1 => match Nat.blt i ρ1.length with
  | true => DD.nx (ρ1.set i (.ok ds))
  | false => False
theorem sv_setDc (i : Nat) {y : Str} {kx vx tg iter : Expr} {ifs : List Expr} {scope : Scope} {own : List (Str × Nat)} {fi : FA} {g : FG} {ft : FT} {fk fv : FE} (hc : X.calm = true) (hN : X.N.Nodup) (hi : IV X tg iter fi) (ok : BlkOk X.N X.env.scope scope own)
    (hg : ∀ (s : Shared) (H : Hp) (C : Addr) (cl : List (Str × Addr)) (fp : List Addr), GW (X.blk s H scope (compEnvC scope cl C X.env) fp) (own.map (·.2)) tg g)
    (ht : ∀ (s : Shared) (H : Hp) (C : Addr) (cl : List (Str × Addr)) (fp : List Addr), TVs (X.blk s H scope (compEnvC scope cl C X.env) fp) ifs ft)
    (hk : ∀ (s : Shared) (H : Hp) (C : Addr) (cl : List (Str × Addr)) (fp : List Addr), EV (X.blk s H scope (compEnvC scope cl C X.env) fp) kx fk)
    (he : ∀ (s : Shared) (H : Hp) (C : Addr) (cl : List (Str × Addr)) (fp : List Addr), EV (X.blk s H scope (compEnvC scope cl C X.env) fp) vx fv)
    (sw : swapsWith (.DictComp kx vx [⟨tg, iter, ifs, 0⟩] scope pos) (some (.Name y py)) spos.line X.env = pure true)
    (hy : X.N[i]? = some y := by rfl) (hyl : X.env.scope.names.lookup y = some .local := by rfl) (hs : ∀ x, foldedSetIterable iter X.env x = pure x := by intro _; rfl) :
    SV X (.Assign [.Name y py] (.DictComp kx vx [⟨tg, iter, ifs, 0⟩] scope pos) spos) (sSetD i (fDc fi g ft fk fv (own.map (·.2)))) := by
  refine weakS (st_dc (own := own) (g := tGw X.K (own.map fun (p : Str × Nat) => p.2) g) (tt := tTe X.K ft) (tk := tE X.K fk) (tv := tE X.K fv) hc hN hy hyl sw hi ok hg ht hk he hs) fun E σ H h => ?_
  obtain ⟨Hb, O, Hs, ρ, DD, r, hf, k⟩ := h
  refine dc_body ⟨Hb, O, Hs, ρ, _, r, hf, fun p xs H1 Hs1 ds ρ1 _ r1 hO h1 q1 => ?_⟩
  split at q1
  · rename_i hl
    obtain ⟨n1, a1⟩ := r1.out p _ upd_same
    exact k.nx _ _ _ _ (r1.take (c := .ok ds) hO (Nat.le_of_ble_eq_true hl) ⟨p, xs, rfl, n1, a1, h1⟩) q1
  · exact q1.elim
end
end PD

/-! Rows of two told numbers: U, what divides it. Plain Lean. -/
namespace RowU
def U (P Q : Int) : Nat → Int
  | 0 => 0
  | 1 => 1
  | n + 2 => P * U P Q (n + 1) - Q * U P Q n
theorem U_two (P Q : Int) (n : Nat) : U P Q (n + 2) = P * U P Q (n + 1) - Q * U P Q n := rfl
theorem U_add (P Q : Int) (m : Nat) : ∀ n, U P Q (m + n + 1) = U P Q (m + 1) * U P Q (n + 1) - Q * (U P Q m * U P Q n)
  | 0 => by show U P Q (m + 1) = U P Q (m + 1) * 1 - Q * (U P Q m * 0); grind
  | 1 => by show P * U P Q (m + 1) - Q * U P Q m = U P Q (m + 1) * (P * 1 - Q * 0) - Q * (U P Q m * 1); grind
  | n + 2 => by
    have h1 := U_add P Q m n
    have h2 := U_add P Q m (n + 1)
    show P * U P Q (m + n + 2) - Q * U P Q (m + n + 1) = U P Q (m + 1) * (P * U P Q (n + 2) - Q * U P Q (n + 1)) - Q * (U P Q m * (P * U P Q (n + 1) - Q * U P Q n))
    rw [show m + n + 2 = m + (n + 1) + 1 by omega, h1, h2]
    grind
theorem U_odd (P Q : Int) (n : Nat) : U P Q (2 * n + 1) = U P Q (n + 1) * U P Q (n + 1) - Q * (U P Q n * U P Q n) := by
  rw [show 2 * n + 1 = n + n + 1 by omega]
  exact U_add P Q n n
theorem U_even (P Q : Int) (n : Nat) : U P Q (2 * n) = U P Q n * (2 * U P Q (n + 1) - P * U P Q n) := by
  cases n with
  | zero => show (0 : Int) = 0 * _; grind
  | succ n =>
    have h := U_add P Q (n + 1) n
    have e := U_two P Q n
    rw [show 2 * (n + 1) = n + 1 + n + 1 by omega, h]
    grind
theorem U_det (P Q : Int) (k : Nat) : ∀ i, U P Q i * U P Q (i + k + 1) - U P Q (i + 1) * U P Q (i + k) = -(Q ^ i * U P Q k)
  | 0 => by
    show 0 * U P Q (0 + k + 1) - 1 * U P Q (0 + k) = -(Q ^ 0 * U P Q k)
    rw [Nat.zero_add]
    grind
  | i + 1 => by
    have h := U_det P Q k i
    have e1 := U_two P Q i
    have e2 := U_two P Q (i + k)
    rw [show i + 1 + k + 1 = i + k + 2 by omega, show i + 1 + k = i + k + 1 by omega, show i + 1 + 1 = i + 2 by omega, e1, e2]
    have e3 : Q ^ (i + 1) = Q ^ i * Q := Int.pow_succ Q i
    rw [e3]
    grind
/-! ### primes -/
structure Pr (p : Nat) : Prop where
  two : 2 ≤ p
  cop : ∀ u, 0 < u → u < p → Nat.gcd u p = 1
theorem Pr.euc {p : Nat} (hp : Pr p) {x y : Int} (h : (p : Int) ∣ x * y) : (p : Int) ∣ x ∨ (p : Int) ∣ y := by
  have h2 := hp.two
  by_cases e : (p : Int) ∣ x
  · exact .inl e
  refine .inr ?_
  have pos : 0 ≤ x % (p : Int) := Int.emod_nonneg _ (by omega)
  have lt : x % (p : Int) < p := Int.emod_lt_of_pos _ (by omega)
  have ne : x % (p : Int) ≠ 0 := fun z => e (Int.dvd_of_emod_eq_zero z)
  have hu : (((x % (p : Int)).toNat : Nat) : Int) = x % (p : Int) := by omega
  have g := hp.cop (x % (p : Int)).toNat (by omega) (by omega)
  have d : (p : Int) ∣ (((x % (p : Int)).toNat : Nat) : Int) * y := by
    rw [hu]
    have e1 : x % (p : Int) = x - p * (x / p) := Int.emod_def ..
    rw [e1, Int.sub_mul]
    exact Int.dvd_sub h ⟨x / p * y, by grind⟩
  have d2 : p ∣ (x % (p : Int)).toNat * y.natAbs := by
    have := Int.natAbs_dvd_natAbs.mpr d
    rw [Int.natAbs_mul, Int.natAbs_natCast, Int.natAbs_natCast] at this
    exact this
  have d3 : p ∣ y.natAbs := (Nat.Coprime.dvd_of_dvd_mul_left (Nat.Coprime.symm g) d2)
  exact Int.ofNat_dvd_left.mpr d3
theorem nodup_le : ∀ (n : Nat) (l : List Nat), l.Nodup → (∀ x ∈ l, x < n) → l.length ≤ n
  | 0, [], _, _ => Nat.le_refl _
  | 0, x :: l, _, h => absurd (h x (List.mem_cons_self ..)) (Nat.not_lt_zero _)
  | n + 1, l, nd, h => by
    have nd2 : (l.erase n).Nodup := nd.erase n
    have h2 : ∀ x ∈ l.erase n, x < n := fun x hx => by
      have h3 := (List.Nodup.mem_erase_iff nd).mp hx
      have := h x h3.2
      have := h3.1
      omega
    have := nodup_le n _ nd2 h2
    rw [List.length_erase] at this
    split at this <;> omega
theorem Pr.pow {p : Nat} (hp : Pr p) {Q : Int} (hQ : ¬ (p : Int) ∣ Q) : ∀ i, ¬ (p : Int) ∣ Q ^ i
  | 0 => fun h => by
    have h2 := hp.two
    have : (p : Int) ∣ 1 := by simpa using h
    have := Int.le_of_dvd (by omega) this
    omega
  | i + 1 => fun h => by
    rw [Int.pow_succ] at h
    rcases hp.euc h with h | h
    · exact hp.pow hQ i h
    · exact hQ h
/-- division by what p does not divide -/
theorem Pr.quot {p : Nat} (hp : Pr p) {u : Int} (hu : ¬ (p : Int) ∣ u) (v : Int) : ∃ r : Nat, r < p ∧ (p : Int) ∣ (r : Int) * u - v := by
  have h2 := hp.two
  have red : ∀ z : Int, (((z % (p : Int)).toNat : Nat) : Int) = z % (p : Int) ∧ (z % (p : Int)).toNat < p := fun z => by
    have pos : 0 ≤ z % (p : Int) := Int.emod_nonneg _ (by omega)
    have lt : z % (p : Int) < p := Int.emod_lt_of_pos _ (by omega)
    omega
  let f : Nat → Nat := fun r => (((r : Int) * u) % (p : Int)).toNat
  by_cases hex : ∃ r : Nat, r < p ∧ f r = (v % (p : Int)).toNat
  · obtain ⟨r, hr, e⟩ := hex
    refine ⟨r, hr, ?_⟩
    have e1 := (red ((r : Int) * u)).1
    have e2 := (red v).1
    have : ((r : Int) * u) % (p : Int) = v % (p : Int) := by
      rw [← e1, ← e2]
      exact congrArg _ e
    exact Int.dvd_of_emod_eq_zero (Int.emod_eq_emod_iff_emod_sub_eq_zero.mp this)
  · exfalso
    have nd : ((v % (p : Int)).toNat :: (List.range p).map f).Nodup := by
      refine List.nodup_cons.mpr ⟨fun h => ?_, ?_⟩
      · obtain ⟨r, hr, e⟩ := List.mem_map.mp h
        exact hex ⟨r, List.mem_range.mp hr, e⟩
      · have inj : ∀ a b : Nat, a < p → b < p → f a = f b → a = b := by
          intro a b ha hb e
          have e1 := (red ((a : Int) * u)).1
          have e2 := (red ((b : Int) * u)).1
          have e3 : ((a : Int) * u) % (p : Int) = ((b : Int) * u) % (p : Int) := by
            rw [← e1, ← e2]
            exact congrArg _ e
          have d : (p : Int) ∣ ((a : Int) - b) * u := by
            have := Int.dvd_of_emod_eq_zero (Int.emod_eq_emod_iff_emod_sub_eq_zero.mp e3)
            rw [Int.sub_mul]
            exact this
          rcases hp.euc d with d | d
          · obtain ⟨c, hc⟩ := d
            by_cases z : c = 0
            · subst z; omega
            · exfalso
              rcases Int.lt_or_gt_of_ne z with z | z
              · have : (p : Int) * c ≤ (p : Int) * (-1) := Int.mul_le_mul_of_nonneg_left (by omega) (by omega)
                omega
              · have : (p : Int) * 1 ≤ (p : Int) * c := Int.mul_le_mul_of_nonneg_left (by omega) (by omega)
                omega
          · exact absurd d hu
        rw [List.nodup_iff_pairwise_ne, List.pairwise_map]
        have pr : (List.range p).Pairwise (· < ·) := List.pairwise_lt_range
        refine List.Pairwise.imp_of_mem (fun {a b} ha hb h e => ?_) pr
        have := inj a b (List.mem_range.mp ha) (List.mem_range.mp hb) e
        omega
    have le := nodup_le p _ nd fun x hx => by
      rcases List.mem_cons.mp hx with rfl | hx
      · exact (red v).2
      · obtain ⟨r, _, rfl⟩ := List.mem_map.mp hx
        exact (red _).2
    rw [List.length_cons, List.length_map, List.length_range] at le
    omega
/-- a prime that does not divide Q divides one of the first p + 1 terms -/
theorem rank_le {p : Nat} (hp : Pr p) (P Q : Int) (hQ : ¬ (p : Int) ∣ Q) : ∃ n, 1 ≤ n ∧ n ≤ p + 1 ∧ (p : Int) ∣ U P Q n := by
  refine Classical.byContradiction fun hno => ?_
  have hno : ∀ n, 1 ≤ n → n ≤ p + 1 → ¬ (p : Int) ∣ U P Q n := fun n h1 h2 h3 => hno ⟨n, h1, h2, h3⟩
  have ex : ∀ i : Nat, ∃ r : Nat, i ≤ p → r < p ∧ (p : Int) ∣ (r : Int) * U P Q (i + 1) - U P Q (i + 2) := fun i => by
    by_cases hi : i ≤ p
    · obtain ⟨r, a, b⟩ := hp.quot (hno (i + 1) (by omega) (by omega)) (U P Q (i + 2))
      exact ⟨r, fun _ => ⟨a, b⟩⟩
    · exact ⟨0, fun h => absurd h hi⟩
  let g : Nat → Nat := fun i => (ex i).choose
  have hg : ∀ i, i ≤ p → g i < p ∧ (p : Int) ∣ (g i : Int) * U P Q (i + 1) - U P Q (i + 2) := fun i hi => (ex i).choose_spec hi
  have nd : ((List.range (p + 1)).map g).Nodup := by
    rw [List.nodup_iff_pairwise_ne, List.pairwise_map]
    have pr : (List.range (p + 1)).Pairwise (· < ·) := List.pairwise_lt_range
    refine List.Pairwise.imp_of_mem (fun {a b} ha hb h e => ?_) pr
    have ha := List.mem_range.mp ha
    have hb := List.mem_range.mp hb
    obtain ⟨_, d1⟩ := hg a (by omega)
    obtain ⟨_, d2⟩ := hg b (by omega)
    rw [← e] at d2
    obtain ⟨k, rfl⟩ : ∃ k, b = a + k := ⟨b - a, by omega⟩
    have det := U_det P Q k (a + 1)
    have d3 : (p : Int) ∣ U P Q (a + 1) * U P Q (a + 1 + k + 1) - U P Q (a + 1 + 1) * U P Q (a + 1 + k) := by
      rw [show a + 1 + k + 1 = a + k + 2 by omega, show a + 1 + k = a + k + 1 by omega]
      obtain ⟨c1, h1⟩ := d1
      obtain ⟨c2, h2⟩ := d2
      exact ⟨U P Q (a + k + 1) * c1 - U P Q (a + 1) * c2, by grind⟩
    rw [det] at d3
    have d4 : (p : Int) ∣ Q ^ (a + 1) * U P Q k := Int.dvd_neg.mp d3
    rcases hp.euc d4 with d | d
    · exact hp.pow hQ _ d
    · exact hno k (by omega) (by omega) d
  have le := nodup_le p _ nd fun x hx => by
    obtain ⟨i, hi, rfl⟩ := List.mem_map.mp hx
    have := List.mem_range.mp hi
    exact (hg i (by omega)).1
  rw [List.length_map, List.length_range] at le
  omega
end RowU

namespace K84
open PySem PySem.Spec L2 PD
def top (i : Nat) : Stmt := PySem.Challenge.pw_rankrows_k84_whole_full_and_double_prime.main.body.getD i (.Pass ⟨0, 0, 0, 0⟩)
/-! ### what each def promises -/
open RowU
def Bs (P Q : Int) : Prop := -100 ≤ P ∧ P ≤ 100 ∧ -100 ≤ Q ∧ Q ≤ 100
def bsD (P Q : Int) : D := .tup [.int P, .int Q]
def ct_is_integer : Ct := fun ds R => ∃ i : Int, ds = [.int i] ∧ R (.bl true)
def ct_is_within : Ct := fun ds R => ∃ t l h : Int, ds = [.int t, .int l, .int h] ∧ R (.bl (decide (l ≤ t) && decide (t ≤ h)))
def ct_is_base : Ct := fun ds R => ∃ P Q : Int, Bs P Q ∧ ds = [bsD P Q] ∧ R (.bl true)
def ct_check_base : Ct := fun ds R => ∃ P Q : Int, Bs P Q ∧ ds = [bsD P Q] ∧ R .non
def ct_check_number : Ct := fun ds R => ∃ t l h : Int, ds = [.int t, .int l, .int h] ∧ l ≤ t ∧ t ≤ h ∧ R .non
def ct_next_left : Ct := fun ds R => ∃ a b x y m : Int, ds = [.tup [.int a, .int b], .tup [.int x, .int y], .int m] ∧ 0 < m ∧ MulOk a y ∧ MulOk b x ∧ R (.tup [.int y, .int ((a * y - b * x) % m)])
def ct_bits_of : Ct := fun ds R => ∃ n : Nat, ds = [.int (n : Int)] ∧ n ≤ 100000 ∧ ∀ bs : List Nat, bs.foldl (fun k b => 2 * k + b) 0 = n → (∀ b ∈ bs, b ≤ 1) → bs.length ≤ n → R (.lst (bs.map fun (b : Nat) => .int (b : Int)))
/-- the n-th term and the next, what is left by m -/
def seqM (P Q m : Int) : Nat → Int × Int
  | 0 => (0, 1 % m)
  | n + 1 => ((seqM P Q m n).2, (P * (seqM P Q m n).2 - Q * (seqM P Q m n).1) % m)
def ct_raw_left : Ct := fun ds R => ∃ (P Q : Int) (n : Nat) (m : Int), Bs P Q ∧ 0 < m ∧ m ≤ 1000000 ∧ n ≤ 100000 ∧ ds = [bsD P Q, .int (n : Int), .int m] ∧ ∀ w, R (.tup [.int (U P Q n % m), .int (U P Q (n + 1) % m), .int w])
/-- the rank: the least place from 1 on -/
def rkN (P Q : Int) (p : Nat) : Nat := (((List.range (p + 1)).find? fun i => decide ((seqM P Q p (i + 1)).1 = 0)).map (· + 1)).getD 0
def prB (n : Nat) : Bool := decide (2 ≤ n) && (List.range n).all fun d => decide (d < 2) || decide (n % d ≠ 0)
/-- a prime that does not divide Q, small -/
structure Ok (Q : Int) (p : Nat) : Prop where
  pr : prB p = true
  le : p ≤ 240
  no : Q % p ≠ 0
def facC (s : Int × Int × List (Int × Int)) : Bool := decide (s.2.1 * s.2.1 ≤ s.1)
def outO (p : Int) : Nat → Int × Int → Int × Int
  | 0, s => s
  | k + 1, s => if s.1 % p = 0 then outO p k (s.1 / p, s.2 + 1) else s
def facS (s : Int × Int × List (Int × Int)) : Int × Int × List (Int × Int) :=
  ((outO s.2.1 s.1.toNat (s.1, 0)).1, s.2.1 + 1, if 0 < (outO s.2.1 s.1.toNat (s.1, 0)).2 then s.2.2 ++ [(s.2.1, (outO s.2.1 s.1.toNat (s.1, 0)).2)] else s.2.2)
def facE (s : Int × Int × List (Int × Int)) : List (Int × Int) := s.2.2 ++ (if 1 < s.1 then [(s.1, 1)] else [])
def ct_primes_of : Ct := fun ds R => ∃ (n : Int) (k : Nat) (s : Int × Int × List (Int × Int)), ds = [.int n] ∧ 1 ≤ n ∧ n ≤ 1000000000 ∧ runW facC facS k (n, 2, []) = some s ∧ R (.lst ((facE s).map pairD))
def ct_raw_rank : Ct := fun ds R => ∃ (P Q : Int) (p : Nat), Bs P Q ∧ Ok Q p ∧ ds = [bsD P Q, .int (p : Int)] ∧ R (.int (rkN P Q p : Nat))
def ct_has_left : Ct := fun ds R => ∃ (P Q : Int) (n : Nat) (m : Int), Bs P Q ∧ 0 < m ∧ m ≤ 1000000 ∧ n ≤ 100000 ∧ ds = [bsD P Q, .int (n : Int), .int m] ∧ R (.bl (decide (U P Q n % m = 0)))
def ct_prime_rank : Ct := ct_raw_rank
def twice (P Q : Int) (p : Nat) : Bool := decide (U P Q (rkN P Q p) % ((p : Int) * p) = 0)
def ct_rank_list : Ct := fun ds R => ∃ (P Q : Int) (p : Nat), Bs P Q ∧ Ok Q p ∧ ds = [bsD P Q, .int (p : Int), .int 2] ∧ R (.lst [.int (rkN P Q p : Nat), .int (if twice P Q p = true then ((rkN P Q p : Nat) : Int) else ((rkN P Q p : Nat) : Int) * p)])
def ct_is_prime : Ct := fun ds R => ∃ n : Nat, ds = [.int (n : Int)] ∧ 2 ≤ n ∧ n ≤ 240 ∧ R (.bl (prB n))
def lst (Q : Int) (most : Nat) : List Nat := ((List.range (most - 1)).map (· + 2)).filter fun p => prB p && decide (Q % p ≠ 0)
def ct_listed : Ct := fun ds R => ∃ (P Q : Int) (most : Nat), Bs P Q ∧ 2 ≤ most ∧ most ≤ 240 ∧ ds = [bsD P Q, .int (most : Int)] ∧ R (.lst ((lst Q most).map fun (p : Nat) => .int (p : Int)))
def ct_check_listed : Ct := fun ds R => ∃ (P Q : Int) (most : Nat), Bs P Q ∧ 2 ≤ most ∧ most ≤ 240 ∧ ds = [bsD P Q, .int (most : Int)] ∧ R .non
def ct_ranks_to : Ct := fun ds R => ∃ (P Q : Int) (most : Nat), Bs P Q ∧ 2 ≤ most ∧ most ≤ 240 ∧ ds = [bsD P Q, .int (most : Int)] ∧ R (.tup ((lst Q most).map fun (p : Nat) => .tup [.int (p : Int), .int (rkN P Q p : Nat)]))
def fullL (P Q : Int) (most : Nat) : List Nat := (lst Q most).filter fun p => decide (rkN P Q p = p + 1)
def ct_full_primes : Ct := fun ds R => ∃ (P Q : Int) (most : Nat), Bs P Q ∧ 2 ≤ most ∧ most ≤ 240 ∧ ds = [bsD P Q, .int (most : Int)] ∧ R (.tup ((fullL P Q most).map fun (p : Nat) => .int (p : Int)))
def twL (P Q : Int) (most : Nat) : List Nat := (lst Q most).filter fun p => twice P Q p
def ct_double_primes : Ct := fun ds R => ∃ (P Q : Int) (most : Nat), Bs P Q ∧ 2 ≤ most ∧ most ≤ 240 ∧ ds = [bsD P Q, .int (most : Int)] ∧ R (.tup ((twL P Q most).map fun (p : Nat) => .int (p : Int)))
/-- f is the least number from 2 on that is no rank -/
def Fw (P Q : Int) (most f : Nat) : Prop := 2 ≤ f ∧ f ∉ (lst Q most).map (rkN P Q) ∧ ∀ k, 2 ≤ k → k < f → k ∈ (lst Q most).map (rkN P Q)
def ct_first_without : Ct := fun ds R => ∃ (P Q : Int) (most : Nat), Bs P Q ∧ 2 ≤ most ∧ most ≤ 240 ∧ ds = [bsD P Q, .int (most : Int)] ∧ ∀ f : Nat, Fw P Q most f → R (.int (f : Int))
/-! the law's own -/
def HandOk (hs : List D) : Prop := ∃ (cells : List Int) (i d k m : Int), hs = [.lst (cells.map .int), .int i, .int d, .int k, .int m] ∧ 0 ≤ i ∧ ∀ c ∈ cells, 0 ≤ c
def ct__law_hand : CtL := fun ds R => ∃ ns : List Int, ns.length ≤ 63 ∧ ds = [.scr ns] ∧ ∀ hs, HandOk hs → R hs
def ct__law_draw : CtM := fun hs ds R => HandOk hs ∧ ∃ m : Int, ds = [.int m] ∧ 0 < m ∧ m ≤ 1000000000 ∧ ∀ (hs' : List D) (z : Int), HandOk hs' → 0 ≤ z → z < m → R (.int z) hs'
def ct__law_some : CtM := fun hs ds R => HandOk hs ∧ ∃ xs : List D, ds = [.lst xs] ∧ 0 < xs.length ∧ xs.length < 1000000000 ∧ ∀ (hs' : List D) (x : D), HandOk hs' → x ∈ xs → R x hs'
def ct__law_is_prime : Ct := fun ds R => ∃ n : Nat, ds = [.int (n : Int)] ∧ 2 ≤ n ∧ n ≤ 240 ∧ R (.bl (prB n))
/-- the least place up to most, or none -/
def lrk (P Q : Int) (m : Int) (most : Nat) : D := match (List.range most).find? fun i => decide (U P Q (i + 1) % m = 0) with
  | some i => .int ((i + 1 : Nat) : Int)
  | none => .non
def ct__law_rank : Ct := fun ds R => ∃ (P Q : Int) (m : Int) (most : Nat), Bs P Q ∧ 0 < m ∧ m ≤ 1000000 ∧ most ≤ 100000 ∧ ds = [bsD P Q, .int m, .int (most : Int)] ∧ R (lrk P Q m most)
def ct__law_ranks : Ct := fun ds R => ∃ (P Q : Int) (most : Nat), Bs P Q ∧ 2 ≤ most ∧ most ≤ 240 ∧ ds = [bsD P Q, .int (most : Int)] ∧ R (.lst ((lst Q most).map fun (p : Nat) => .tup [.int (p : Int), .int (rkN P Q p : Nat)]))
def ct__law_is_right : CtM := fun hs ds R => HandOk hs ∧ ∃ P Q : Int, Bs P Q ∧ ds = [bsD P Q] ∧ ∀ hs' : List D, HandOk hs' → R (.bl true) hs'
def ct_law : Ct := lawC 63
abbrev st_is_integer : Stmt := top 6
abbrev N_is_integer : List Str := ["thing"]
theorem sc_is_integer : FnScope N_is_integer ["thing"] (defScope st_is_integer) := ⟨rfl, rfl, rfl, by decide +kernel, rfl, by decide +kernel, by decide +kernel⟩
def t_is_integer : FS := sRet (fAndV (fIsi "int" (fVar 0)) (fNotV (fIsi "bool" (fVar 0))))
abbrev st_is_within : Stmt := top 7
abbrev N_is_within : List Str := ["thing", "low", "high"]
theorem sc_is_within : FnScope N_is_within ["thing", "low", "high"] (defScope st_is_within) := ⟨rfl, rfl, rfl, by decide +kernel, rfl, by decide +kernel, by decide +kernel⟩
def t_is_within : FS := sRet (fAndV (fCall ct_is_integer (fCons (fVar 0) (fNil))) (fCh gLe gLe (fVar 1) (fVar 0) (fVar 2)))
abbrev st_is_base : Stmt := top 8
abbrev N_is_base : List Str := ["thing", "one"]
theorem sc_is_base : FnScope N_is_base ["thing"] (defScope st_is_base) := ⟨rfl, rfl, rfl, by decide +kernel, rfl, by decide +kernel, by decide +kernel⟩
def t_is_base : FS := sSeq (sIf (fOr (fNot (fBo (fIsi "tuple" (fVar 0)))) (fBo (fOp gNe (fCa gLen (fCons (fVar 0) (fNil))) (fC (.int 2))))) (sRet (fC (.bl false))) (sNil)) (sRet (fCa (gBls fun bs => bs.all id) (fCons (fL (fLc (iTup (fVar 0)) (gNm 1) (fYes) (fCall ct_is_within (fCons (fVar 1) (fCons (fUn gNeg (fC (.int 100))) (fCons (fC (.int 100)) (fNil))))) [1])) (fNil))))
abbrev st_check_base : Stmt := top 9
abbrev N_check_base : List Str := ["thing"]
theorem sc_check_base : FnScope N_check_base ["thing"] (defScope st_check_base) := ⟨rfl, rfl, rfl, by decide +kernel, rfl, by decide +kernel, by decide +kernel⟩
def t_check_base : FS := sIf (fNot (fBo (fCall ct_is_base (fCons (fVar 0) (fNil))))) (sNo) (sNil)
abbrev st_check_number : Stmt := top 10
abbrev N_check_number : List Str := ["thing", "low", "high"]
theorem sc_check_number : FnScope N_check_number ["thing", "low", "high"] (defScope st_check_number) := ⟨rfl, rfl, rfl, by decide +kernel, rfl, by decide +kernel, by decide +kernel⟩
def t_check_number : FS := sIf (fNot (fBo (fCall ct_is_within (fCons (fVar 0) (fCons (fVar 1) (fCons (fVar 2) (fNil))))))) (sNo) (sNil)
abbrev st_next_left : Stmt := top 13
abbrev N_next_left : List Str := ["base", "here", "by"]
theorem sc_next_left : FnScope N_next_left ["base", "here", "by"] (defScope st_next_left) := ⟨rfl, rfl, rfl, by decide +kernel, rfl, by decide +kernel, by decide +kernel⟩
def t_next_left : FS := sRet (fTup (fCons (fUn (gIxC 1) (fVar 1)) (fCons (fOp gMod (fOp gSub (fOp gMul (fUn (gIxC 0) (fVar 0)) (fUn (gIxC 1) (fVar 1))) (fOp gMul (fUn (gIxC 1) (fVar 0)) (fUn (gIxC 0) (fVar 1)))) (fVar 2)) (fNil))))
abbrev st_bits_of : Stmt := top 15
abbrev N_bits_of : List Str := ["number", "found"]
theorem sc_bits_of : FnScope N_bits_of ["number"] (defScope st_bits_of) := ⟨rfl, rfl, rfl, by decide +kernel, rfl, by decide +kernel, by decide +kernel⟩
def t_bits_of : FS := sSeq (sSetL 1 (fLst (fNil))) (sSeq (sWhile (fBo (fOp gGt (fVar 0) (fC (.int 0)))) (sSeq (sApp 1 (fOp gMod (fVar 0) (fC (.int 2)))) (sSet 0 (fOp gDiv (fVar 0) (fC (.int 2)))))) (sRet (fL (fRev (fNm 1)))))
abbrev st_raw_left : Stmt := top 14
abbrev N_raw_left : List Str := ["base", "n", "by", "bit", "p", "q", "one", "later", "power"]
theorem sc_raw_left : FnScope N_raw_left ["base", "n", "by"] (defScope st_raw_left) := ⟨rfl, rfl, rfl, by decide +kernel, rfl, by decide +kernel, by decide +kernel⟩
def t_raw_left : FS := sSeq (sAsg (fVar 0) (gTu 2 (gsCons (gNm 4) (gsCons (gNm 5) (gsNil))))) (sSeq (sPar3 6 7 8 (fC (.int 0)) (fOp gMod (fC (.int 1)) (fVar 2)) (fOp gMod (fC (.int 1)) (fVar 2))) (sSeq (sFor (iLst (fCall ct_bits_of (fCons (fVar 1) (fNil)))) (gNm 3) (sSeq (sPar 6 7 (fOp gMod (fOp gMul (fVar 6) (fOp gSub (fOp gMul (fC (.int 2)) (fVar 7)) (fOp gMul (fVar 4) (fVar 6)))) (fVar 2)) (fOp gMod (fOp gSub (fOp gMul (fVar 7) (fVar 7)) (fOp gMul (fOp gMul (fVar 5) (fVar 6)) (fVar 6))) (fVar 2))) (sSeq (sSet 8 (fOp gMod (fOp gMul (fVar 8) (fVar 8)) (fVar 2))) (sIf (fBo (fOp gEq (fVar 3) (fC (.int 1)))) (sSeq (sPar 6 7 (fVar 7) (fOp gMod (fOp gSub (fOp gMul (fVar 4) (fVar 7)) (fOp gMul (fVar 5) (fVar 6))) (fVar 2))) (sSet 8 (fOp gMod (fOp gMul (fVar 8) (fVar 5)) (fVar 2)))) (sNil))))) (sRet (fTup (fCons (fVar 6) (fCons (fVar 7) (fCons (fVar 8) (fNil))))))))
abbrev st_primes_of : Stmt := top 18
abbrev N_primes_of : List Str := ["number", "found", "p", "often"]
theorem sc_primes_of : FnScope N_primes_of ["number"] (defScope st_primes_of) := ⟨rfl, rfl, rfl, by decide +kernel, rfl, by decide +kernel, by decide +kernel⟩
def t_primes_of : FS := sSeq (sParL 1 2 (fLst (fNil)) (fC (.int 2))) (sSeq (sWhile (fBo (fOp gLe (fOp gMul (fVar 2) (fVar 2)) (fVar 0))) (sSeq (sSet 3 (fC (.int 0))) (sSeq (sWhile (fBo (fOp gEq (fOp gMod (fVar 0) (fVar 2)) (fC (.int 0)))) (sSeq (sSet 0 (fOp gDiv (fVar 0) (fVar 2))) (sAug (fun a b => a + b) 3 (fC (.int 1))))) (sSeq (sIf (fBo (fOp gGt (fVar 3) (fC (.int 0)))) (sApp 1 (fTup (fCons (fVar 2) (fCons (fVar 3) (fNil))))) (sNil)) (sAug (fun a b => a + b) 2 (fC (.int 1))))))) (sRet (fL (fCat (fNm 1) (fIf (fBo (fOp gGt (fVar 0) (fC (.int 1)))) (fL (fLst (fCons (fTup (fCons (fVar 0) (fCons (fC (.int 1)) (fNil)))) (fNil)))) (fL (fLst (fNil))))))))
abbrev st_raw_rank : Stmt := top 19
abbrev N_raw_rank : List Str := ["base", "by", "here", "place"]
theorem sc_raw_rank : FnScope N_raw_rank ["base", "by"] (defScope st_raw_rank) := ⟨rfl, rfl, rfl, by decide +kernel, rfl, by decide +kernel, by decide +kernel⟩
def t_raw_rank : FS := sSeq (sPar 2 3 (fCall ct_next_left (fCons (fVar 0) (fCons (fTup (fCons (fC (.int 0)) (fCons (fOp gMod (fC (.int 1)) (fVar 1)) (fNil)))) (fCons (fVar 1) (fNil))))) (fC (.int 1))) (sSeq (sWhile (fBo (fOp gNe (fUn (gIxC 0) (fVar 2)) (fC (.int 0)))) (sSeq (sSet 2 (fCall ct_next_left (fCons (fVar 0) (fCons (fVar 2) (fCons (fVar 1) (fNil)))))) (sAug (fun a b => a + b) 3 (fC (.int 1))))) (sRet (fVar 3)))
abbrev st_has_left : Stmt := top 20
abbrev N_has_left : List Str := ["base", "n", "by"]
theorem sc_has_left : FnScope N_has_left ["base", "n", "by"] (defScope st_has_left) := ⟨rfl, rfl, rfl, by decide +kernel, rfl, by decide +kernel, by decide +kernel⟩
def t_has_left : FS := sRet (fOp gEq (fUn (gIxC 0) (fCall ct_raw_left (fCons (fVar 0) (fCons (fVar 1) (fCons (fVar 2) (fNil)))))) (fC (.int 0)))
abbrev st_prime_rank : Stmt := top 22
abbrev N_prime_rank : List Str := ["base", "p"]
theorem sc_prime_rank : FnScope N_prime_rank ["base", "p"] (defScope st_prime_rank) := ⟨rfl, rfl, rfl, by decide +kernel, rfl, by decide +kernel, by decide +kernel⟩
def t_prime_rank : FS := sSeq (sIf (fOr (fBo (fOp gEq (fVar 1) (fC (.int 2)))) (fBo (fOp gLt (fVar 1) (fC (.int 1000))))) (sRet (fCall ct_raw_rank (fCons (fVar 0) (fCons (fVar 1) (fNil))))) (sNil)) (sNo)
abbrev st_rank_list : Stmt := top 23
abbrev N_rank_list : List Str := ["base", "p", "many", "turn", "found", "by"]
theorem sc_rank_list : FnScope N_rank_list ["base", "p", "many"] (defScope st_rank_list) := ⟨rfl, rfl, rfl, by decide +kernel, rfl, by decide +kernel, by decide +kernel⟩
def t_rank_list : FS := sSeq (sParL 4 5 (fLst (fCons (fCall ct_prime_rank (fCons (fVar 0) (fCons (fVar 1) (fNil)))) (fNil))) (fVar 1)) (sSeq (sFor (iRg1 (fOp gSub (fVar 2) (fC (.int 1)))) (gNm 3) (sSeq (sSet 5 (fOp gMul (fVar 5) (fVar 1))) (sApp 4 (fIf (fBo (fCall ct_has_left (fCons (fVar 0) (fCons (fIxO 4 (fUn gNeg (fC (.int 1)))) (fCons (fVar 5) (fNil)))))) (fIxO 4 (fUn gNeg (fC (.int 1)))) (fOp gMul (fIxO 4 (fUn gNeg (fC (.int 1)))) (fVar 1)))))) (sRet (fNm 4)))
abbrev st_is_prime : Stmt := top 25
abbrev N_is_prime : List Str := ["number"]
theorem sc_is_prime : FnScope N_is_prime ["number"] (defScope st_is_prime) := ⟨rfl, rfl, rfl, by decide +kernel, rfl, by decide +kernel, by decide +kernel⟩
def t_is_prime : FS := sRet (fAndV (fOp gGt (fVar 0) (fC (.int 1))) (fOp gEqD (fCall ct_primes_of (fCons (fVar 0) (fNil))) (fL (fLst (fCons (fTup (fCons (fVar 0) (fCons (fC (.int 1)) (fNil)))) (fNil))))))
abbrev st_listed : Stmt := top 28
abbrev N_listed : List Str := ["base", "most", "p"]
theorem sc_listed : FnScope N_listed ["base", "most"] (defScope st_listed) := ⟨rfl, rfl, rfl, by decide +kernel, rfl, by decide +kernel, by decide +kernel⟩
def t_listed : FS := sRet (fL (fLc (iRg2 (fC (.int 2)) (fOp gAdd (fVar 1) (fC (.int 1)))) (gNm 2) (fAnd (fBo (fCall ct_is_prime (fCons (fVar 2) (fNil)))) (fBo (fOp gNe (fOp gMod (fUn (gIxC 1) (fVar 0)) (fVar 2)) (fC (.int 0))))) (fVar 2) [2]))
abbrev st_check_listed : Stmt := top 29
abbrev N_check_listed : List Str := ["base", "most"]
theorem sc_check_listed : FnScope N_check_listed ["base", "most"] (defScope st_check_listed) := ⟨rfl, rfl, rfl, by decide +kernel, rfl, by decide +kernel, by decide +kernel⟩
def t_check_listed : FS := sSeq (sExpr (fCall ct_check_base (fCons (fVar 0) (fNil)))) (sExpr (fCall ct_check_number (fCons (fVar 1) (fCons (fC (.int 2)) (fCons (fC (.int 2000)) (fNil))))))
abbrev st_ranks_to : Stmt := top 30
abbrev N_ranks_to : List Str := ["base", "most", "p"]
theorem sc_ranks_to : FnScope N_ranks_to ["base", "most"] (defScope st_ranks_to) := ⟨rfl, rfl, rfl, by decide +kernel, rfl, by decide +kernel, by decide +kernel⟩
def t_ranks_to : FS := sSeq (sExpr (fCall ct_check_listed (fCons (fVar 0) (fCons (fVar 1) (fNil))))) (sRet (fCa gTuple (fCons (fL (fLc (iLst (fCall ct_listed (fCons (fVar 0) (fCons (fVar 1) (fNil))))) (gNm 2) (fYes) (fTup (fCons (fVar 2) (fCons (fCall ct_prime_rank (fCons (fVar 0) (fCons (fVar 2) (fNil)))) (fNil)))) [2])) (fNil))))
abbrev st_full_primes : Stmt := top 31
abbrev N_full_primes : List Str := ["base", "most", "p"]
theorem sc_full_primes : FnScope N_full_primes ["base", "most"] (defScope st_full_primes) := ⟨rfl, rfl, rfl, by decide +kernel, rfl, by decide +kernel, by decide +kernel⟩
def t_full_primes : FS := sSeq (sExpr (fCall ct_check_listed (fCons (fVar 0) (fCons (fVar 1) (fNil))))) (sRet (fCa gTuple (fCons (fL (fLc (iLst (fCall ct_listed (fCons (fVar 0) (fCons (fVar 1) (fNil))))) (gNm 2) (fBo (fOp gEq (fCall ct_prime_rank (fCons (fVar 0) (fCons (fVar 2) (fNil)))) (fOp gAdd (fVar 2) (fC (.int 1))))) (fVar 2) [2])) (fNil))))
abbrev st_double_primes : Stmt := top 32
abbrev N_double_primes : List Str := ["base", "most", "p"]
theorem sc_double_primes : FnScope N_double_primes ["base", "most"] (defScope st_double_primes) := ⟨rfl, rfl, rfl, by decide +kernel, rfl, by decide +kernel, by decide +kernel⟩
def t_double_primes : FS := sSeq (sExpr (fCall ct_check_listed (fCons (fVar 0) (fCons (fVar 1) (fNil))))) (sRet (fCa gTuple (fCons (fL (fLc (iLst (fCall ct_listed (fCons (fVar 0) (fCons (fVar 1) (fNil))))) (gNm 2) (fBo (fOp gEq (fUn (gIxC 1) (fCall ct_rank_list (fCons (fVar 0) (fCons (fVar 2) (fCons (fC (.int 2)) (fNil)))))) (fCall ct_prime_rank (fCons (fVar 0) (fCons (fVar 2) (fNil)))))) (fVar 2) [2])) (fNil))))
abbrev st_first_without : Stmt := top 33
abbrev N_first_without : List Str := ["base", "most", "some", "found", "p"]
theorem sc_first_without : FnScope N_first_without ["base", "most"] (defScope st_first_without) := ⟨rfl, rfl, rfl, by decide +kernel, rfl, by decide +kernel, by decide +kernel⟩
def t_first_without : FS := sSeq (sExpr (fCall ct_check_listed (fCons (fVar 0) (fCons (fVar 1) (fNil))))) (sSeq (sSetD 2 (fDc (iLst (fCall ct_listed (fCons (fVar 0) (fCons (fVar 1) (fNil))))) (gNm 4) (fYes) (fCall ct_prime_rank (fCons (fVar 0) (fCons (fVar 4) (fNil)))) (fC (.bl true)) [4])) (sSeq (sSet 3 (fC (.int 2))) (sSeq (sWhile (fBo (fIn false 2 (fVar 3))) (sAug (fun a b => a + b) 3 (fC (.int 1)))) (sRet (fVar 3)))))
abbrev st__law_hand : Stmt := top 35
abbrev N__law_hand : List Str := ["script", "cells", "cell"]
theorem sc__law_hand : FnScope N__law_hand ["script"] (defScope st__law_hand) := ⟨rfl, rfl, rfl, by decide +kernel, rfl, by decide +kernel, by decide +kernel⟩
def t__law_hand : FS := sSetL 1 (fLc (iLst (fL (fSl (fVar 0) (oNone) (oSome (fC (.int 63)))))) (gNm 2) (fYes) (fOp gMod (fCa gInt (fCons (fCa gAbs (fCons (fCa gInt (fCons (fVar 2) (fNil))) (fNil))) (fNil))) (fOp gPow (fC (.int 10)) (fC (.int 36)))) [2])
def u__law_hand : FA := fLst (fCons (fNm 1) (fCons (fC (.int 0)) (fCons (fC (.int 0)) (fCons (fOp gAdd (fC (.int 1567)) (fOp gMul (fC (.int 5)) (fLenO 1))) (fCons (fC (.int 0)) (fNil))))))
abbrev st__law_draw : Stmt := top 36
abbrev N__law_draw : List Str := ["hand", "many", "number", "cell", "digit"]
theorem sc__law_draw : FnScope N__law_draw ["hand", "many"] (defScope st__law_draw) := ⟨rfl, rfl, rfl, by decide +kernel, rfl, by decide +kernel, by decide +kernel⟩
def t__law_draw : FS := sSeq (sIf (fAnd (fBo (fOp gEq (fIxOC 0 2) (fC (.int 0)))) (fBo (fOp gLt (fIxOC 0 1) (fCa gLen (fCons (fIxOC 0 0) (fNil)))))) (sSeq (sSet 3 (fOp gIx (fIxOC 0 0) (fIxOC 0 1))) (sSeq (sAsg (fOp gAdd (fIxOC 0 1) (fC (.int 1))) (gSetOC 0 1)) (sSeq (sAsg (fOp gMod (fCa gInt (fCons (fOp gAdd (fOp gAdd (fOp gMul (fIxOC 0 3) (fC (.int 69621))) (fOp gMul (fVar 3) (fC (.int 40692)))) (fC (.int 43))) (fNil))) (fC (.int 2147483629))) (gSetOC 0 3)) (sIf (fBo (fOp gGe (fVar 3) (fOp gPow (fC (.int 10)) (fC (.int 18))))) (sAsg (fVar 3) (gSetOC 0 2)) (sNil))))) (sNil)) (sSeq (sIf (fBo (fOp gGt (fIxOC 0 2) (fC (.int 0)))) (sSeq (sSet 4 (fOp gMod (fCa gInt (fCons (fIxOC 0 2) (fNil))) (fVar 1))) (sSeq (sAsg (fOp gDiv (fIxOC 0 2) (fVar 1)) (gSetOC 0 2)) (sRet (fVar 4)))) (sNil)) (sSeq (sAsg (fOp gAdd (fIxOC 0 4) (fC (.int 1))) (gSetOC 0 4)) (sSeq (sSet 2 (fOp gMod (fCa gInt (fCons (fOp gMul (fCa gInt (fCons (fOp gAdd (fIxOC 0 3) (fOp gMul (fC (.int 7919)) (fIxOC 0 4))) (fNil))) (fC (.int 48271))) (fNil))) (fC (.int 2147483647)))) (sSeq (sSet 2 (fOp gMod (fCa gInt (fCons (fOp gMul (fVar 2) (fOp gAdd (fOp gDiv (fVar 2) (fC (.int 1009))) (fC (.int 69621)))) (fNil))) (fC (.int 2147483647)))) (sSeq (sSet 2 (fOp gMod (fCa gInt (fCons (fOp gMul (fVar 2) (fOp gAdd (fOp gDiv (fVar 2) (fC (.int 2003))) (fC (.int 40014)))) (fNil))) (fC (.int 2147483563)))) (sRet (fOp gMod (fCa gInt (fCons (fOp gDiv (fVar 2) (fC (.int 16))) (fNil))) (fVar 1))))))))
abbrev st__law_some : Stmt := top 37
abbrev N__law_some : List Str := ["hand", "things"]
theorem sc__law_some : FnScope N__law_some ["hand", "things"] (defScope st__law_some) := ⟨rfl, rfl, rfl, by decide +kernel, rfl, by decide +kernel, by decide +kernel⟩
def t__law_some : FS := sRet (fOp gIx (fVar 1) (fCallM ct__law_draw 0 (fCons (fCa gLen (fCons (fVar 1) (fNil))) (fNil))))
abbrev st__law_is_prime : Stmt := top 38
abbrev N__law_is_prime : List Str := ["number", "part"]
theorem sc__law_is_prime : FnScope N__law_is_prime ["number"] (defScope st__law_is_prime) := ⟨rfl, rfl, rfl, by decide +kernel, rfl, by decide +kernel, by decide +kernel⟩
def t__law_is_prime : FS := sSeq (sIf (fBo (fOp gLt (fVar 0) (fC (.int 2)))) (sRet (fC (.bl false))) (sNil)) (sSeq (sSet 1 (fC (.int 2))) (sSeq (sWhile (fBo (fOp gLe (fOp gMul (fVar 1) (fVar 1)) (fVar 0))) (sSeq (sIf (fBo (fOp gEq (fOp gMod (fCa gInt (fCons (fVar 0) (fNil))) (fVar 1)) (fC (.int 0)))) (sRet (fC (.bl false))) (sNil)) (sSet 1 (fOp gAdd (fVar 1) (fC (.int 1)))))) (sRet (fC (.bl true)))))
abbrev st__law_rank : Stmt := top 39
abbrev N__law_rank : List Str := ["base", "by", "most", "n", "one", "other"]
theorem sc__law_rank : FnScope N__law_rank ["base", "by", "most"] (defScope st__law_rank) := ⟨rfl, rfl, rfl, by decide +kernel, rfl, by decide +kernel, by decide +kernel⟩
def t__law_rank : FS := sSeq (sAsg (fTup (fCons (fC (.int 0)) (fCons (fC (.int 1)) (fNil)))) (gTu 2 (gsCons (gNm 4) (gsCons (gNm 5) (gsNil))))) (sSeq (sFor (iRg2 (fC (.int 1)) (fOp gAdd (fVar 2) (fC (.int 1)))) (gNm 3) (sSeq (sIf (fBo (fOp gEq (fOp gMod (fCa gInt (fCons (fVar 5) (fNil))) (fVar 1)) (fC (.int 0)))) (sRet (fVar 3)) (sNil)) (sPar 4 5 (fVar 5) (fOp gMod (fCa gInt (fCons (fOp gSub (fOp gMul (fUn (gIxC 0) (fVar 0)) (fVar 5)) (fOp gMul (fUn (gIxC 1) (fVar 0)) (fVar 4))) (fNil))) (fVar 1))))) (sRet (fC .non)))
abbrev st__law_ranks : Stmt := top 40
abbrev N__law_ranks : List Str := ["base", "most", "some", "p"]
theorem sc__law_ranks : FnScope N__law_ranks ["base", "most"] (defScope st__law_ranks) := ⟨rfl, rfl, rfl, by decide +kernel, rfl, by decide +kernel, by decide +kernel⟩
def t__law_ranks : FS := sSeq (sSetL 2 (fLc (iRg2 (fC (.int 2)) (fOp gAdd (fVar 1) (fC (.int 1)))) (gNm 3) (fBo (fCall ct__law_is_prime (fCons (fVar 3) (fNil)))) (fVar 3) [3])) (sSeq (sSetL 2 (fLc (iLst (fNm 2)) (gNm 3) (fBo (fOp gNe (fOp gMod (fCa gInt (fCons (fUn (gIxC 1) (fVar 0)) (fNil))) (fVar 3)) (fC (.int 0)))) (fVar 3) [3])) (sRet (fL (fLc (iLst (fNm 2)) (gNm 3) (fYes) (fTup (fCons (fVar 3) (fCons (fCall ct__law_rank (fCons (fVar 0) (fCons (fVar 3) (fCons (fOp gAdd (fVar 3) (fC (.int 1))) (fNil))))) (fNil)))) [3]))))
abbrev st__law_is_right : Stmt := top 41
abbrev N__law_is_right : List Str := ["hand", "base", "most", "pairs", "full", "twice", "heard", "ranks", "due", "wide", "p", "rank", "n"]
theorem sc__law_is_right : FnScope N__law_is_right ["hand", "base"] (defScope st__law_is_right) := ⟨rfl, rfl, rfl, by decide +kernel, rfl, by decide +kernel, by decide +kernel⟩
def t__law_is_right : FS := sSeq (sSet 2 (fOp gAdd (fC (.int 2)) (fCallM ct__law_draw 0 (fCons (fCallM ct__law_some 0 (fCons (fL (fLst (fCons (fC (.int 20)) (fCons (fC (.int 199)) (fNil))))) (fNil))) (fNil))))) (sSeq (sSet 3 (fCall ct__law_ranks (fCons (fVar 1) (fCons (fVar 2) (fNil))))) (sSeq (sSet 4 (fCa gTuple (fCons (fL (fLc (iLst (fVar 3)) (gTu 2 (gsCons (gNm 10) (gsCons (gNm 11) (gsNil)))) (fBo (fOp gEq (fVar 11) (fOp gAdd (fVar 10) (fC (.int 1))))) (fVar 10) [10, 11])) (fNil)))) (sSeq (sSetL 5 (fLst (fNil))) (sSeq (sFor (iLst (fVar 3)) (gTu 2 (gsCons (gNm 10) (gsCons (gNm 11) (gsNil)))) (sExt 5 (fIf (fBo (fOp gEq (fCall ct__law_rank (fCons (fVar 1) (fCons (fOp gMul (fVar 10) (fVar 10)) (fCons (fVar 11) (fNil))))) (fVar 11))) (fL (fLst (fCons (fVar 10) (fNil)))) (fL (fLst (fNil)))))) (sSeq (sSetL 6 (fLst (fCons (fCall ct_full_primes (fCons (fVar 1) (fCons (fVar 2) (fNil)))) (fCons (fCall ct_double_primes (fCons (fVar 1) (fCons (fVar 2) (fNil)))) (fNil))))) (sSeq (sIf (fBo (fOp gNe (fCa gRepr (fCons (fNm 6) (fNil))) (fCa gRepr (fCons (fL (fLst (fCons (fVar 4) (fCons (fCa gTuple (fCons (fNm 5) (fNil))) (fNil))))) (fNil))))) (sRet (fC (.bl false))) (sNil)) (sSeq (sSet 7 (fL (fLc (iLst (fVar 3)) (gTu 2 (gsCons (gNm 10) (gsCons (gNm 11) (gsNil)))) (fYes) (fVar 11) [10, 11]))) (sSeq (sSet 8 (fUn (gIxC 0) (fL (fLc (iRg2 (fC (.int 2)) (fOp gAdd (fCa gLen (fCons (fVar 3) (fNil))) (fC (.int 3)))) (gNm 12) (fBo (fOp gNotIn (fVar 12) (fVar 7))) (fVar 12) [12])))) (sSeq (sIf (fBo (fOp gNe (fCa gRepr (fCons (fCall ct_first_without (fCons (fVar 1) (fCons (fVar 2) (fNil)))) (fNil))) (fCa gRepr (fCons (fVar 8) (fNil))))) (sRet (fC (.bl false))) (sNil)) (sSeq (sIf (fBo (fOp gNeD (fCa gTuple (fCons (fL (fLc (iTup (fCall ct_ranks_to (fCons (fVar 1) (fCons (fVar 2) (fNil))))) (gTu 2 (gsCons (gNm 10) (gsCons (gNm 11) (gsNil)))) (fBo (fOp gEq (fVar 11) (fOp gAdd (fVar 10) (fC (.int 1))))) (fVar 10) [10, 11])) (fNil))) (fVar 4))) (sRet (fC (.bl false))) (sNil)) (sSeq (sSet 9 (fOp gAdd (fVar 2) (fCallM ct__law_draw 0 (fCons (fC (.int 40)) (fNil))))) (sSeq (sIf (fNot (fBo (fCa (gBls fun bs => bs.all id) (fCons (fL (fLc (iTup (fVar 4)) (gNm 10) (fYes) (fOp gIn (fVar 10) (fCall ct_full_primes (fCons (fVar 1) (fCons (fVar 9) (fNil))))) [10])) (fNil))))) (sRet (fC (.bl false))) (sNil)) (sRet (fOp gGe (fCall ct_first_without (fCons (fVar 1) (fCons (fVar 9) (fNil)))) (fVar 8)))))))))))))))
abbrev st_law : Stmt := top 42
abbrev N_law : List Str := ["script", "hand", "known", "turn", "base"]
theorem sc_law : FnScope N_law ["script"] (defScope st_law) := ⟨rfl, rfl, rfl, by decide +kernel, rfl, by decide +kernel, by decide +kernel⟩
def t_law : FS := sSeq (sSetL 1 (fCallL ct__law_hand (fCons (fVar 0) (fNil)))) (sSeq (sSetL 2 (fLst (fCons (fCall ct_full_primes (fCons (fTup (fCons (fC (.int 1)) (fCons (fUn gNeg (fC (.int 1))) (fNil)))) (fCons (fC (.int 30)) (fNil)))) (fCons (fCall ct_first_without (fCons (fTup (fCons (fC (.int 1)) (fCons (fUn gNeg (fC (.int 1))) (fNil)))) (fCons (fC (.int 20)) (fNil)))) (fCons (fCall ct_double_primes (fCons (fTup (fCons (fC (.int 1)) (fCons (fUn gNeg (fC (.int 1))) (fNil)))) (fCons (fC (.int 100)) (fNil)))) (fNil)))))) (sSeq (sSetL 2 (fCat (fNm 2) (fL (fLst (fCons (fCall ct_full_primes (fCons (fTup (fCons (fC (.int 3)) (fCons (fC (.int 2)) (fNil)))) (fCons (fC (.int 20)) (fNil)))) (fCons (fCall ct_first_without (fCons (fTup (fCons (fC (.int 3)) (fCons (fC (.int 2)) (fNil)))) (fCons (fC (.int 7)) (fNil)))) (fCons (fCall ct_double_primes (fCons (fTup (fCons (fC (.int 3)) (fCons (fC (.int 2)) (fNil)))) (fCons (fC (.int 40)) (fNil)))) (fNil)))))))) (sSeq (sIf (fBo (fOp gNe (fCa gRepr (fCons (fNm 2) (fNil))) (fCa gRepr (fCons (fL (fLst (fCons (fTup (fCons (fC (.int 2)) (fCons (fC (.int 3)) (fCons (fC (.int 7)) (fCons (fC (.int 23)) (fNil)))))) (fCons (fC (.int 2)) (fCons (fTup (fNil)) (fCons (fTup (fNil)) (fCons (fC (.int 5)) (fCons (fTup (fNil)) (fNil))))))))) (fNil))))) (sRet (fC (.bl false))) (sNil)) (sSeq (sFor (iRg1 (fC (.int 5))) (gNm 3) (sSeq (sSet 4 (fTup (fCons (fOp gSub (fCallM ct__law_draw 1 (fCons (fC (.int 201)) (fNil))) (fC (.int 100))) (fCons (fOp gSub (fCallM ct__law_draw 1 (fCons (fC (.int 201)) (fNil))) (fC (.int 100))) (fNil))))) (sSeq (sIf (fBo (fOp gEq (fCallM ct__law_draw 1 (fCons (fC (.int 2)) (fNil))) (fC (.int 0)))) (sSet 4 (fTup (fCons (fOp gSub (fCallM ct__law_draw 1 (fCons (fC (.int 9)) (fNil))) (fC (.int 4))) (fCons (fOp gSub (fCallM ct__law_draw 1 (fCons (fC (.int 9)) (fNil))) (fC (.int 4))) (fNil))))) (sNil)) (sIf (fNot (fBo (fCallM ct__law_is_right 1 (fCons (fVar 4) (fNil))))) (sRet (fC (.bl false))) (sNil))))) (sRet (fC (.bl true)))))))
end K84

namespace K84
open PySem PySem.Spec L2 PD
theorem ifT {A B : Prop} (h : A) : if true = true then A else B := by rw [if_pos rfl]; exact h
theorem ifF {A B : Prop} (h : B) : if false = true then A else B := by rw [if_neg Bool.false_ne_true]; exact h
theorem ln_is_integer : ∀ ds R, ct_is_integer ds R → ds.length = 1 := by
  rintro ds R ⟨i, rfl, _⟩; rfl
theorem pu_is_integer : ∀ ds R, ct_is_integer ds R → t_is_integer (endsOf R) (startC N_is_integer (ds.map .sh)) := by
  rintro ds R ⟨i, rfl, h⟩
  exact h
theorem ln_is_within : ∀ ds R, ct_is_within ds R → ds.length = 3 := by
  rintro ds R ⟨t, l, h, rfl, _⟩; rfl
theorem pu_is_within : ∀ ds R, ct_is_within ds R → t_is_within (endsOf R) (startC N_is_within (ds.map .sh)) := by
  rintro ds R ⟨t, l, h, rfl, hR⟩
  refine ⟨t, rfl, ifT (ifb (fun h1 => ?_) (fun h1 => ?_))⟩
  · rw [decide_eq_true h1, Bool.true_and] at hR; exact hR
  · rw [decide_eq_false h1, Bool.false_and] at hR; exact hR
theorem ln_check_number : ∀ ds R, ct_check_number ds R → ds.length = 3 := by
  rintro ds R ⟨t, l, h, rfl, _⟩; rfl
theorem pu_check_number : ∀ ds R, ct_check_number ds R → t_check_number (endsOf R) (startC N_check_number (ds.map .sh)) := by
  rintro ds R ⟨t, l, h, rfl, h1, h2, hR⟩
  refine ⟨t, l, h, rfl, ifB (fun e => ?_) (fun _ => hR)⟩
  rw [decide_eq_true h1, decide_eq_true h2] at e
  cases e
/-! the hand -/
theorem ln__law_hand : ∀ ds R, ct__law_hand ds R → ds.length = 1 := by
  rintro ds R ⟨n, _, rfl, _⟩; rfl
def cellV (d : D) : D := match d with
  | .int z => .int (((z.natAbs : Nat) : Int) % 10 ^ 36)
  | d => d
theorem cells_of : ∀ ns : List Int, ∃ ms : List Int, (ns.map D.int).map cellV = ms.map .int ∧ ∀ c ∈ ms, 0 ≤ c
  | [] => ⟨[], rfl, fun _ h => nomatch h⟩
  | n :: ns => by
    obtain ⟨ms, e, h⟩ := cells_of ns
    refine ⟨((n.natAbs : Nat) : Int) % 10 ^ 36 :: ms, ?_, fun c hc => ?_⟩
    · rw [List.map_cons, List.map_cons, List.map_cons, e]; rfl
    · rcases List.mem_cons.mp hc with rfl | hc
      · exact Int.emod_nonneg _ (by decide)
      · exact h c hc
theorem cut_some (ns : List Int) (lo hi : Option Int) : ∃ ms : List Int, cutD (ns.map D.int) lo hi = ms.map D.int ∧ ms.length ≤ ns.length := by
  unfold cutD
  rw [← List.map_drop, ← List.map_take]
  exact ⟨_, rfl, by rw [List.length_take, List.length_drop]; omega⟩
theorem pu__law_hand : ∀ ds R, ct__law_hand ds R → t__law_hand { nx := fun ρ => u__law_hand ρ fun z _ => R z, rt := fun _ _ => False } (startC N__law_hand (ds.map .sh)) := by
  rintro ds R ⟨ns, hl, rfl, hR⟩
  change t__law_hand _ [.sh (.scr ns), .un, .un]
  obtain ⟨ms, e, hm⟩ := cut_some ns none (some 63)
  dsimp only [t__law_hand, u__law_hand, sSeq, sNil, sRet, sRetN, sExpr, sIf, sSet, sSetL, sAsg, sPar, sParL, sPar3, sAug, sBreak, sCont, sNo, sApp, sExt, sSetD, fIn, fRev, fDi, sPut, sSetK, fVar, fNm, fC, fOp, fUn, fCa, fCaL, fBo, fCh, fAnd, fOr, fNot, fAndV, fOrV, fNotV, fIf, fNil, fCons, fTup, fLst, fL, gI, gI0, gAdd, PD.gSub, gMul, gDiv, gMod, gPow, gNeg, gLt, gLe, gGt, gGe, gEq, gNe, eqS, gIsN, gNotN, gIn, gNotIn, D.seq, gIx, gIxC, fIxO, fIxOC, fLenO, olAt, Cell.ols, Cell.upd, putL, gSetOC, gAbs, gInt, gLen, gTuple, gList, gMax, gMin, gInts, gBls, iLst, PD.iTup, iRg1, iRg2, gNm, gsNil, gsCons, gTu, fCall, fCallM, fCallL, fCat, gCat, gCatT, fSl, fSlT, oNone, oSome, fGet, fGet2, dicAt, dKey, fSortIt, fYes, endsOf, endsM, wipeC, restoreC, keepC, List.getElem?_cons_zero, List.getElem?_cons_succ, List.set_cons_zero, List.set_cons_succ, List.length_cons, List.length_nil, List.getElem?_nil, Nat.beq, Nat.ble, Nat.blt, Nat.reduceAdd, Nat.reduceLeDiff, Nat.reduceLT, Nat.zero_add, Nat.reduceSucc, Nat.beq_eq]
  refine fLc_i ?_
  dsimp only [sSeq, sNil, sRet, sRetN, sExpr, sIf, sSet, sSetL, sAsg, sPar, sParL, sPar3, sAug, sBreak, sCont, sNo, sApp, sExt, sSetD, fIn, fRev, fDi, sPut, sSetK, fVar, fNm, fC, fOp, fUn, fCa, fCaL, fBo, fCh, fAnd, fOr, fNot, fAndV, fOrV, fNotV, fIf, fNil, fCons, fTup, fLst, fL, gI, gI0, gAdd, PD.gSub, gMul, gDiv, gMod, gPow, gNeg, gLt, gLe, gGt, gGe, gEq, gNe, eqS, gIsN, gNotN, gIn, gNotIn, D.seq, gIx, gIxC, fIxO, fIxOC, fLenO, olAt, Cell.ols, Cell.upd, putL, gSetOC, gAbs, gInt, gLen, gTuple, gList, gMax, gMin, gInts, gBls, iLst, PD.iTup, iRg1, iRg2, gNm, gsNil, gsCons, gTu, fCall, fCallM, fCallL, fCat, gCat, gCatT, fSl, fSlT, oNone, oSome, fGet, fGet2, dicAt, dKey, fSortIt, fYes, endsOf, endsM, wipeC, restoreC, keepC, List.getElem?_cons_zero, List.getElem?_cons_succ, List.set_cons_zero, List.set_cons_succ, List.length_cons, List.length_nil, List.getElem?_nil, Nat.beq, Nat.ble, Nat.blt, Nat.reduceAdd, Nat.reduceLeDiff, Nat.reduceLT, Nat.zero_add, Nat.reduceSucc, Nat.beq_eq]
  rw [e]
  refine lc_run (items := ms.map D.int) (fun _ => true) cellV (by rw [List.length_map]; omega) (fun d hd P1 P0 k1 k0 => ?_) ?_
  · obtain ⟨z, hz, rfl⟩ := List.mem_map.mp hd
    dsimp only [sSeq, sNil, sRet, sRetN, sExpr, sIf, sSet, sSetL, sAsg, sPar, sParL, sPar3, sAug, sBreak, sCont, sNo, sApp, sExt, sSetD, fIn, fRev, fDi, sPut, sSetK, fVar, fNm, fC, fOp, fUn, fCa, fCaL, fBo, fCh, fAnd, fOr, fNot, fAndV, fOrV, fNotV, fIf, fNil, fCons, fTup, fLst, fL, gI, gI0, gAdd, PD.gSub, gMul, gDiv, gMod, gPow, gNeg, gLt, gLe, gGt, gGe, gEq, gNe, eqS, gIsN, gNotN, gIn, gNotIn, D.seq, gIx, gIxC, fIxO, fIxOC, fLenO, olAt, Cell.ols, Cell.upd, putL, gSetOC, gAbs, gInt, gLen, gTuple, gList, gMax, gMin, gInts, gBls, iLst, PD.iTup, iRg1, iRg2, gNm, gsNil, gsCons, gTu, fCall, fCallM, fCallL, fCat, gCat, gCatT, fSl, fSlT, oNone, oSome, fGet, fGet2, dicAt, dKey, fSortIt, fYes, endsOf, endsM, wipeC, restoreC, keepC, List.getElem?_cons_zero, List.getElem?_cons_succ, List.set_cons_zero, List.set_cons_succ, List.length_cons, List.length_nil, List.getElem?_nil, Nat.beq, Nat.ble, Nat.blt, Nat.reduceAdd, Nat.reduceLeDiff, Nat.reduceLT, Nat.zero_add, Nat.reduceSucc, Nat.beq_eq]
    rw [if_pos rfl]
    refine ⟨⟨by decide, by decide, by decide⟩, (by decide : (0 : Int) < 10 ^ 36), ?_⟩
    exact k1 rfl _ rfl
  · obtain ⟨cs, e2, hc⟩ := cells_of ms
    rw [show (ms.map D.int).filter (fun _ => true) = ms.map D.int from List.filter_eq_self.mpr fun _ _ => rfl, e2]
    refine ⟨PD.MulOk.l (by decide) (by decide), ?_⟩
    exact hR _ ⟨cs, 0, 0, _, 0, rfl, Int.le_refl _, hc⟩
theorem ln__law_draw : ∀ hs ds R, ct__law_draw hs ds R → ds.length + 1 = 2 := by
  rintro hs ds R ⟨_, m, rfl, _⟩; rfl
theorem at_ok {cs : List Int} {i : Int} (h0 : 0 ≤ i) (h : i < (cs.length : Int)) : ∃ c, atI (cs.map D.int) i = some (.int c) ∧ c ∈ cs := by
  obtain ⟨k, rfl⟩ := Int.eq_ofNat_of_zero_le h0
  have hk : k < cs.length := by omega
  refine ⟨cs[k], ?_, List.getElem_mem hk⟩
  refine atI_nat ?_
  rw [List.getElem?_map, List.getElem?_eq_getElem hk]
  rfl
def t2_draw : FS := sSeq (sIf (fBo (fOp gGt (fIxOC 0 2) (fC (.int 0)))) (sSeq (sSet 4 (fOp gMod (fCa gInt (fCons (fIxOC 0 2) (fNil))) (fVar 1))) (sSeq (sAsg (fOp gDiv (fIxOC 0 2) (fVar 1)) (gSetOC 0 2)) (sRet (fVar 4)))) (sNil)) (sSeq (sAsg (fOp gAdd (fIxOC 0 4) (fC (.int 1))) (gSetOC 0 4)) (sSeq (sSet 2 (fOp gMod (fCa gInt (fCons (fOp gMul (fCa gInt (fCons (fOp gAdd (fIxOC 0 3) (fOp gMul (fC (.int 7919)) (fIxOC 0 4))) (fNil))) (fC (.int 48271))) (fNil))) (fC (.int 2147483647)))) (sSeq (sSet 2 (fOp gMod (fCa gInt (fCons (fOp gMul (fVar 2) (fOp gAdd (fOp gDiv (fVar 2) (fC (.int 1009))) (fC (.int 69621)))) (fNil))) (fC (.int 2147483647)))) (sSeq (sSet 2 (fOp gMod (fCa gInt (fCons (fOp gMul (fVar 2) (fOp gAdd (fOp gDiv (fVar 2) (fC (.int 2003))) (fC (.int 40014)))) (fNil))) (fC (.int 2147483563)))) (sRet (fOp gMod (fCa gInt (fCons (fOp gDiv (fVar 2) (fC (.int 16))) (fNil))) (fVar 1)))))))
theorem draw_rest (a : Addr) (m : Int) (hm : 0 < m) (hm2 : m ≤ 1000000000) (R : D → List D → Prop) (hR : ∀ (hs' : List D) (z : Int), HandOk hs' → 0 ≤ z → z < m → R (.int z) hs') (hs : List D) (h : HandOk hs) (c3 : Cell) :
    t2_draw (endsM a R) [.pl a hs, .sh (.int m), .un, c3, .un] := by
  obtain ⟨cells, i, d, k, n, rfl, h0, hc⟩ := h
  dsimp only [t2_draw, sSeq, sNil, sRet, sRetN, sExpr, sIf, sSet, sSetL, sAsg, sPar, sParL, sPar3, sAug, sBreak, sCont, sNo, sApp, sExt, sSetD, fIn, fRev, fDi, sPut, sSetK, fVar, fNm, fC, fOp, fUn, fCa, fCaL, fBo, fCh, fAnd, fOr, fNot, fAndV, fOrV, fNotV, fIf, fNil, fCons, fTup, fLst, fL, gI, gI0, gAdd, PD.gSub, gMul, gDiv, gMod, gPow, gNeg, gLt, gLe, gGt, gGe, gEq, gNe, eqS, gIsN, gNotN, gIn, gNotIn, D.seq, gIx, gIxC, fIxO, fIxOC, fLenO, olAt, Cell.ols, Cell.upd, putL, gSetOC, gAbs, gInt, gLen, gTuple, gList, gMax, gMin, gInts, gBls, iLst, PD.iTup, iRg1, iRg2, gNm, gsNil, gsCons, gTu, fCall, fCallM, fCallL, fCat, gCat, gCatT, fSl, fSlT, oNone, oSome, fGet, fGet2, dicAt, dKey, fSortIt, fYes, endsOf, endsM, wipeC, restoreC, keepC, List.getElem?_cons_zero, List.getElem?_cons_succ, List.set_cons_zero, List.set_cons_succ, List.length_cons, List.length_nil, List.getElem?_nil, Nat.beq, Nat.ble, Nat.blt, Nat.reduceAdd, Nat.reduceLeDiff, Nat.reduceLT, Nat.zero_add, Nat.reduceSucc, Nat.beq_eq]
  refine ifb (fun e => ?_) (fun e => ?_)
  · refine ⟨hm, DivOk.of hm (by omega) _, _, rfl, ?_⟩
    exact hR _ _ ⟨cells, i, d / m, k, n, rfl, h0, hc⟩ (Int.emod_nonneg _ (by omega)) (Int.emod_lt_of_pos _ hm)
  · refine ⟨PD.MulOk.l (by decide) (by decide), PD.MulOk.r (by decide) (by decide), by decide, ?_⟩
    have l1 : ∀ z : Int, 0 ≤ z % 2147483647 ∧ z % 2147483647 < 2147483647 := fun z => ⟨Int.emod_nonneg _ (by decide), Int.emod_lt_of_pos _ (by decide)⟩
    generalize (k + 7919 * (n + 1)) * 48271 = z1
    obtain ⟨a1, a2⟩ := l1 z1
    generalize z1 % 2147483647 = z2 at a1 a2 ⊢
    refine ⟨DivOk.of (by decide) (by decide) _, PD.MulOk.l (by omega) (by omega), by decide, ?_⟩
    generalize z2 * (z2 / 1009 + 69621) = z3
    obtain ⟨a1, a2⟩ := l1 z3
    generalize z3 % 2147483647 = z4 at a1 a2 ⊢
    refine ⟨DivOk.of (by decide) (by decide) _, PD.MulOk.l (by omega) (by omega), by decide, ?_⟩
    refine ⟨DivOk.of (by decide) (by decide) _, hm, _, rfl, ?_⟩
    exact hR _ _ ⟨cells, i, d, k, n + 1, rfl, h0, hc⟩ (Int.emod_nonneg _ (by omega)) (Int.emod_lt_of_pos _ hm)
theorem pu__law_draw : ∀ a hs ds R, ct__law_draw hs ds R → t__law_draw (endsM a R) (startC N__law_draw (.pl a hs :: ds.map .sh)) := by
  rintro a hs ds R ⟨⟨cells, i, d, k, n, rfl, h0, hc⟩, m, rfl, hm, hm2, hR⟩
  change t__law_draw _ [.pl a [.lst (cells.map .int), .int i, .int d, .int k, .int n], .sh (.int m), .un, .un, .un]
  have rest := draw_rest a m hm hm2 R hR
  have base := rest _ ⟨cells, i, d, k, n, rfl, h0, hc⟩ .un
  show sSeq (sIf (fAnd (fBo (fOp gEq (fIxOC 0 2) (fC (.int 0)))) (fBo (fOp gLt (fIxOC 0 1) (fCa gLen (fCons (fIxOC 0 0) (fNil)))))) (sSeq (sSet 3 (fOp gIx (fIxOC 0 0) (fIxOC 0 1))) (sSeq (sAsg (fOp gAdd (fIxOC 0 1) (fC (.int 1))) (gSetOC 0 1)) (sSeq (sAsg (fOp gMod (fCa gInt (fCons (fOp gAdd (fOp gAdd (fOp gMul (fIxOC 0 3) (fC (.int 69621))) (fOp gMul (fVar 3) (fC (.int 40692)))) (fC (.int 43))) (fNil))) (fC (.int 2147483629))) (gSetOC 0 3)) (sIf (fBo (fOp gGe (fVar 3) (fOp gPow (fC (.int 10)) (fC (.int 18))))) (sAsg (fVar 3) (gSetOC 0 2)) (sNil))))) (sNil)) t2_draw (endsM a R) [.pl a [.lst (cells.map .int), .int i, .int d, .int k, .int n], .sh (.int m), .un, .un, .un]
  dsimp only [sSeq, sNil, sRet, sRetN, sExpr, sIf, sSet, sSetL, sAsg, sPar, sParL, sPar3, sAug, sBreak, sCont, sNo, sApp, sExt, sSetD, fIn, fRev, fDi, sPut, sSetK, fVar, fNm, fC, fOp, fUn, fCa, fCaL, fBo, fCh, fAnd, fOr, fNot, fAndV, fOrV, fNotV, fIf, fNil, fCons, fTup, fLst, fL, gI, gI0, gAdd, PD.gSub, gMul, gDiv, gMod, gPow, gNeg, gLt, gLe, gGt, gGe, gEq, gNe, eqS, gIsN, gNotN, gIn, gNotIn, D.seq, gIx, gIxC, fIxO, fIxOC, fLenO, olAt, Cell.ols, Cell.upd, putL, gSetOC, gAbs, gInt, gLen, gTuple, gList, gMax, gMin, gInts, gBls, iLst, PD.iTup, iRg1, iRg2, gNm, gsNil, gsCons, gTu, fCall, fCallM, fCallL, fCat, gCat, gCatT, fSl, fSlT, oNone, oSome, fGet, fGet2, dicAt, dKey, fSortIt, fYes, endsOf, endsM, wipeC, restoreC, keepC, List.getElem?_cons_zero, List.getElem?_cons_succ, List.set_cons_zero, List.set_cons_succ, List.length_cons, List.length_nil, List.getElem?_nil, Nat.beq, Nat.ble, Nat.blt, Nat.reduceAdd, Nat.reduceLeDiff, Nat.reduceLT, Nat.zero_add, Nat.reduceSucc, Nat.beq_eq]
  refine ifb (fun e => ?_) (fun _ => by rw [if_neg Bool.false_ne_true]; exact base)
  refine ifb (fun e2 => ?_) (fun _ => base)
  rw [List.length_map] at e2
  obtain ⟨c, ec, mc⟩ := at_ok h0 e2
  refine ⟨_, ec, ?_⟩
  dsimp only [sSeq, sNil, sRet, sRetN, sExpr, sIf, sSet, sSetL, sAsg, sPar, sParL, sPar3, sAug, sBreak, sCont, sNo, sApp, sExt, sSetD, fIn, fRev, fDi, sPut, sSetK, fVar, fNm, fC, fOp, fUn, fCa, fCaL, fBo, fCh, fAnd, fOr, fNot, fAndV, fOrV, fNotV, fIf, fNil, fCons, fTup, fLst, fL, gI, gI0, gAdd, PD.gSub, gMul, gDiv, gMod, gPow, gNeg, gLt, gLe, gGt, gGe, gEq, gNe, eqS, gIsN, gNotN, gIn, gNotIn, D.seq, gIx, gIxC, fIxO, fIxOC, fLenO, olAt, Cell.ols, Cell.upd, putL, gSetOC, gAbs, gInt, gLen, gTuple, gList, gMax, gMin, gInts, gBls, iLst, PD.iTup, iRg1, iRg2, gNm, gsNil, gsCons, gTu, fCall, fCallM, fCallL, fCat, gCat, gCatT, fSl, fSlT, oNone, oSome, fGet, fGet2, dicAt, dKey, fSortIt, fYes, endsOf, endsM, wipeC, restoreC, keepC, List.getElem?_cons_zero, List.getElem?_cons_succ, List.set_cons_zero, List.set_cons_succ, List.length_cons, List.length_nil, List.getElem?_nil, Nat.beq, Nat.ble, Nat.blt, Nat.reduceAdd, Nat.reduceLeDiff, Nat.reduceLT, Nat.zero_add, Nat.reduceSucc, Nat.beq_eq]
  refine ⟨PD.MulOk.r (by decide) (by decide), PD.MulOk.r (by decide) (by decide), by decide, ?_⟩
  refine ⟨⟨by decide, by decide, by decide⟩, ?_⟩
  refine ifb (fun _ => ?_) (fun _ => ?_)
  · exact rest _ ⟨cells, i + 1, c, _, n, rfl, by omega, hc⟩ _
  · exact rest _ ⟨cells, i + 1, d, _, n, rfl, by omega, hc⟩ _
theorem ln__law_some : ∀ hs ds R, ct__law_some hs ds R → ds.length + 1 = 2 := by
  rintro hs ds R ⟨_, m, rfl, _⟩; rfl
theorem pu__law_some : ∀ a hs ds R, ct__law_some hs ds R → t__law_some (endsM a R) (startC N__law_some (.pl a hs :: ds.map .sh)) := by
  rintro a hs ds R ⟨hh, xs, rfl, h1, h2, hR⟩
  change t__law_some _ [.pl a hs, .sh (.lst xs)]
  dsimp only [t__law_some, sSeq, sNil, sRet, sRetN, sExpr, sIf, sSet, sSetL, sAsg, sPar, sParL, sPar3, sAug, sBreak, sCont, sNo, sApp, sExt, sSetD, fIn, fRev, fDi, sPut, sSetK, fVar, fNm, fC, fOp, fUn, fCa, fCaL, fBo, fCh, fAnd, fOr, fNot, fAndV, fOrV, fNotV, fIf, fNil, fCons, fTup, fLst, fL, gI, gI0, gAdd, PD.gSub, gMul, gDiv, gMod, gPow, gNeg, gLt, gLe, gGt, gGe, gEq, gNe, eqS, gIsN, gNotN, gIn, gNotIn, D.seq, gIx, gIxC, fIxO, fIxOC, fLenO, olAt, Cell.ols, Cell.upd, putL, gSetOC, gAbs, gInt, gLen, gTuple, gList, gMax, gMin, gInts, gBls, iLst, PD.iTup, iRg1, iRg2, gNm, gsNil, gsCons, gTu, fCall, fCallM, fCallL, fCat, gCat, gCatT, fSl, fSlT, oNone, oSome, fGet, fGet2, dicAt, dKey, fSortIt, fYes, endsOf, endsM, wipeC, restoreC, keepC, List.getElem?_cons_zero, List.getElem?_cons_succ, List.set_cons_zero, List.set_cons_succ, List.length_cons, List.length_nil, List.getElem?_nil, Nat.beq, Nat.ble, Nat.blt, Nat.reduceAdd, Nat.reduceLeDiff, Nat.reduceLT, Nat.zero_add, Nat.reduceSucc, Nat.beq_eq]
  refine ⟨hh, _, rfl, by omega, by omega, fun hs' z hh' z0 zl => ?_⟩
  obtain ⟨k, rfl⟩ := Int.eq_ofNat_of_zero_le z0
  have hk : k < xs.length := by omega
  refine ⟨xs[k], atI_nat (List.getElem?_eq_getElem hk), hs', rfl, ?_⟩
  exact hR _ _ hh' (List.getElem_mem hk)
theorem rg_get {lo : Int} {n i : Nat} {d : D} (h : (rgD lo n)[i]? = some d) : i < n ∧ d = .int (lo + (i : Nat)) := by
  have hl : i < n := by
    have := (List.getElem?_eq_some_iff.mp h).1
    rw [rgD_len] at this
    exact this
  rw [rgD_at hl] at h
  exact ⟨hl, (Option.some.inj h).symm⟩
theorem ln_next_left : ∀ ds R, ct_next_left ds R → ds.length = 3 := by
  rintro ds R ⟨a, b, x, y, m, rfl, _⟩; rfl
theorem pu_next_left : ∀ ds R, ct_next_left ds R → t_next_left (endsOf R) (startC N_next_left (ds.map .sh)) := by
  rintro ds R ⟨a, b, x, y, m, rfl, hm, h1, h2, hR⟩
  exact ⟨h1, h2, hm, hR⟩
/-! the primes of a number -/
theorem runW_lift {S S' : Type} {c : S → Bool} {g : S → S} {c' : S' → Bool} {g' : S' → S'} (f : S' → S) (hc : ∀ t, c' t = c (f t)) (hg : ∀ t, f (g' t) = g (f t)) : ∀ (n : Nat) (t : S') {s : S}, runW c g n (f t) = some s → ∃ t', runW c' g' n t = some t' ∧ f t' = s
  | 0, _, _, h => by cases h
  | n + 1, t, s, h => by
    unfold runW at h ⊢
    rw [hc]
    by_cases e : c (f t) = true
    · rw [if_pos e] at h ⊢
      rw [← hg] at h
      exact runW_lift f hc hg n (g' t) h
    · rw [if_neg e] at h ⊢
      cases h
      exact ⟨t, rfl, rfl⟩
theorem div_step {n p : Int} (h : 1 ≤ n) (hp : 2 ≤ p) (e : n % p = 0) : 1 ≤ n / p ∧ n / p < n := by
  have h1 := Int.mul_ediv_add_emod n p
  rw [e, Int.add_zero] at h1
  generalize n / p = q at h1 ⊢
  have hq : 0 < q := by
    refine Int.lt_of_not_ge fun hq => ?_
    have := Int.mul_nonneg (show (0 : Int) ≤ p by omega) (show (0 : Int) ≤ -q by omega)
    rw [Int.mul_neg] at this
    omega
  have h2 : 2 * q ≤ p * q := Int.mul_le_mul_of_nonneg_right hp (by omega)
  omega
def ouC (p : Int) (s : Int × Int) : Bool := decide (s.1 % p = 0)
def ouS (p : Int) (s : Int × Int) : Int × Int := (s.1 / p, s.2 + 1)
theorem ou_run {p : Int} (hp : 2 ≤ p) : ∀ (k : Nat) (n o : Int), 1 ≤ n → n.toNat ≤ k → runW (ouC p) (ouS p) (k + 1) (n, o) = some (outO p k (n, o))
  | 0, n, o, h1, h2 => by omega
  | k + 1, n, o, h1, h2 => by
    unfold runW outO
    by_cases e : n % p = 0
    · obtain ⟨a, b⟩ := div_step h1 hp e
      rw [show ouC p (n, o) = true from decide_eq_true e, if_pos rfl, if_pos e]
      exact ou_run hp k (n / p) (o + 1) a (by omega)
    · rw [show ouC p (n, o) = false from decide_eq_false e, if_neg Bool.false_ne_true, if_neg e]
theorem outO_le {p : Int} (hp : 2 ≤ p) : ∀ (k : Nat) (n o : Int), 1 ≤ n → 1 ≤ (outO p k (n, o)).1 ∧ (outO p k (n, o)).1 ≤ n
  | 0, n, o, h => ⟨h, Int.le_refl _⟩
  | k + 1, n, o, h => by
    unfold outO
    by_cases e : n % p = 0
    · rw [if_pos e]
      obtain ⟨a, b⟩ := div_step h hp e
      obtain ⟨c, d⟩ := outO_le hp k (n / p) (o + 1) a
      exact ⟨c, by show (outO p k (n / p, o + 1)).1 ≤ n; omega⟩
    · rw [if_neg e]; exact ⟨h, Int.le_refl _⟩
def FacI (s : (Int × Int × List (Int × Int)) × Cell) : Prop := 1 ≤ s.1.1 ∧ s.1.1 ≤ 1000000000 ∧ 2 ≤ s.1.2.1 ∧ s.1.2.1 ≤ 40000 ∧ (s.1.2.2.length : Int) ≤ s.1.2.1
theorem sq_small {p n : Int} (h : p * p ≤ n) (hn : n ≤ 1000000000) : p < 32000 := by
  refine Int.lt_of_not_ge fun hp => ?_
  have := Int.mul_le_mul hp hp (by decide) (by omega)
  omega
theorem ln_primes_of : ∀ ds R, ct_primes_of ds R → ds.length = 1 := by
  rintro ds R ⟨n, k, s, rfl, _⟩; rfl
theorem pu_primes_of : ∀ ds R, ct_primes_of ds R → t_primes_of (endsOf R) (startC N_primes_of (ds.map .sh)) := by
  rintro ds R ⟨n, k, s, rfl, h1, h2, hr, hR⟩
  change t_primes_of _ [.sh (.int n), .un, .un, .un]
  dsimp only [t_primes_of, sSeq, sNil, sRet, sRetN, sExpr, sIf, sSet, sSetL, sAsg, sPar, sParL, sPar3, sAug, sBreak, sCont, sNo, sApp, sExt, sSetD, fIn, fRev, fDi, sPut, sSetK, fVar, fNm, fC, fOp, fUn, fCa, fCaL, fBo, fCh, fAnd, fOr, fNot, fAndV, fOrV, fNotV, fIf, fNil, fCons, fTup, fLst, fL, gI, gI0, gAdd, PD.gSub, gMul, gDiv, gMod, gPow, gNeg, gLt, gLe, gGt, gGe, gEq, gNe, eqS, gIsN, gNotN, gIn, gNotIn, D.seq, gIx, gIxC, fIxO, fIxOC, fLenO, olAt, Cell.ols, Cell.upd, putL, gSetOC, gAbs, gInt, gLen, gTuple, gList, gMax, gMin, gInts, gBls, iLst, PD.iTup, iRg1, iRg2, gNm, gsNil, gsCons, gTu, fCall, fCallM, fCallL, fCat, gCat, gCatT, fSl, fSlT, oNone, oSome, fGet, fGet2, dicAt, dKey, fSortIt, fYes, endsOf, endsM, wipeC, restoreC, keepC, List.getElem?_cons_zero, List.getElem?_cons_succ, List.set_cons_zero, List.set_cons_succ, List.length_cons, List.length_nil, List.getElem?_nil, Nat.beq, Nat.ble, Nat.blt, Nat.reduceAdd, Nat.reduceLeDiff, Nat.reduceLT, Nat.zero_add, Nat.reduceSucc, Nat.beq_eq]
  obtain ⟨⟨s', c'⟩, hr', es⟩ := runW_lift (c' := fun s => facC s.1) (g' := fun s : (Int × Int × List (Int × Int)) × Cell => (facS s.1, .sh (.int (outO s.1.2.1 s.1.1.toNat (s.1.1, 0)).2))) (fun s => s.1) (fun _ => rfl) (fun _ => rfl) k ((n, 2, []), .un) hr
  have es : s' = s := es
  subst es
  refine while_run (fun s : (Int × Int × List (Int × Int)) × Cell => [.sh (.int s.1.1), .ol (s.1.2.2.map pairD), .sh (.int s.1.2.1), s.2]) _ _ FacI hr' ⟨h1, h2, (by decide : (2 : Int) ≤ 2), (by decide : (2 : Int) ≤ 40000), (by decide : ((0 : Nat) : Int) ≤ 2)⟩ ?_ ?_ ?_ ?_
  · rintro ⟨⟨m, p, l⟩, c⟩ ⟨i1, i2, i3, i4, i5⟩ e
    have e : p * p ≤ m := of_decide_eq_true e
    have ps := sq_small e i2
    obtain ⟨o1, o2⟩ := outO_le i3 m.toNat m 0 i1
    refine ⟨o1, Int.le_trans o2 i2, ?_, ?_, ?_⟩
    · show 2 ≤ p + 1; have i3 : 2 ≤ p := i3; omega
    · show p + 1 ≤ 40000; omega
    · show (((if 0 < (outO p m.toNat (m, 0)).2 then l ++ [(p, (outO p m.toNat (m, 0)).2)] else l).length : Nat) : Int) ≤ p + 1
      have i5 : (l.length : Int) ≤ p := i5
      split
      · rw [List.length_append, List.length_singleton]; omega
      · omega
  · rintro ⟨⟨m, p, l⟩, c⟩ Q ⟨i1, i2, i3, i4, i5⟩ h
    have i3 : 2 ≤ p := i3
    have i4 : p ≤ 40000 := i4
    exact ⟨MulOk.l (by omega) (by omega), h⟩
  · rintro ⟨⟨m, p, l⟩, c⟩ DD ⟨i1, i2, i3, i4, i5⟩ e h
    have i1 : 1 ≤ m := i1
    have i3 : 2 ≤ p := i3
    have i4 : p ≤ 40000 := i4
    have i5 : (l.length : Int) ≤ p := i5
    dsimp only [sSeq, sNil, sRet, sRetN, sExpr, sIf, sSet, sSetL, sAsg, sPar, sParL, sPar3, sAug, sBreak, sCont, sNo, sApp, sExt, sSetD, fIn, fRev, fDi, sPut, sSetK, fVar, fNm, fC, fOp, fUn, fCa, fCaL, fBo, fCh, fAnd, fOr, fNot, fAndV, fOrV, fNotV, fIf, fNil, fCons, fTup, fLst, fL, gI, gI0, gAdd, PD.gSub, gMul, gDiv, gMod, gPow, gNeg, gLt, gLe, gGt, gGe, gEq, gNe, eqS, gIsN, gNotN, gIn, gNotIn, D.seq, gIx, gIxC, fIxO, fIxOC, fLenO, olAt, Cell.ols, Cell.upd, putL, gSetOC, gAbs, gInt, gLen, gTuple, gList, gMax, gMin, gInts, gBls, iLst, PD.iTup, iRg1, iRg2, gNm, gsNil, gsCons, gTu, fCall, fCallM, fCallL, fCat, gCat, gCatT, fSl, fSlT, oNone, oSome, fGet, fGet2, dicAt, dKey, fSortIt, fYes, endsOf, endsM, wipeC, restoreC, keepC, List.getElem?_cons_zero, List.getElem?_cons_succ, List.set_cons_zero, List.set_cons_succ, List.length_cons, List.length_nil, List.getElem?_nil, Nat.beq, Nat.ble, Nat.blt, Nat.reduceAdd, Nat.reduceLeDiff, Nat.reduceLT, Nat.zero_add, Nat.reduceSucc, Nat.beq_eq]
    refine while_run (fun t : Int × Int => [.sh (.int t.1), .ol (l.map pairD), .sh (.int p), .sh (.int t.2)]) (ouC p) (ouS p) (fun _ => True) (ou_run i3 m.toNat m 0 i1 (Nat.le_refl _)) trivial (fun _ _ _ => trivial) (fun t Q _ h => ⟨by show (0 : Int) < p; omega, h⟩)
      (fun t DD _ e h => ⟨DivOk.of (by show (0 : Int) < p; omega) (by show p < 2 ^ 64; omega) _, h⟩) fun _ _ => ?_
    have h : DD.nx [.sh (.int (outO p m.toNat (m, 0)).1), .ol ((if 0 < (outO p m.toNat (m, 0)).2 then l ++ [(p, (outO p m.toNat (m, 0)).2)] else l).map pairD), .sh (.int (p + 1)), .sh (.int (outO p m.toNat (m, 0)).2)] := h
    generalize outO p m.toNat (m, 0) = z at h ⊢
    refine ifb (fun hz => ?_) (fun hz => ?_)
    · rw [if_pos hz, List.map_append] at h
      exact ⟨by rw [List.length_map]; omega, h⟩
    · rw [if_neg hz] at h
      exact h
  · rintro ⟨i1, i2, i3, i4, i5⟩ _
    obtain ⟨m, p, l⟩ := s'
    have i5 : (l.length : Int) ≤ p := i5
    have i4 : p ≤ 40000 := i4
    have hR : R (.lst ((l ++ (if 1 < m then [(m, 1)] else [])).map pairD)) := hR
    refine ifb (fun hz => ?_) (fun hz => ?_)
    · rw [if_pos hz, List.map_append] at hR
      exact ⟨by rw [List.length_map]; show l.length + 1 ≤ _; omega, hR⟩
    · rw [if_neg hz, List.map_append] at hR
      exact ⟨by rw [List.length_map]; show l.length + 0 ≤ _; omega, hR⟩
end K84

namespace K84
open PySem PySem.Spec L2 PD RowU
/-! what is left -/
theorem mod_of {m X Y c : Int} (h : X = Y + m * c) : X % m = Y % m := by rw [h, Int.add_mul_emod_self_left]
theorem step_mod (P Q m a b : Int) : (P * (a % m) - Q * (b % m)) % m = (P * a - Q * b) % m := by
  refine mod_of (c := -(P * (a / m)) + Q * (b / m)) ?_
  rw [Int.emod_def a, Int.emod_def b]
  grind
theorem seq_U (P Q m : Int) : ∀ n, seqM P Q m n = (U P Q n % m, U P Q (n + 1) % m)
  | 0 => by show (0, 1 % m) = ((0 : Int) % m, (1 : Int) % m); rw [Int.zero_emod]
  | n + 1 => by
    show ((seqM P Q m n).2, (P * (seqM P Q m n).2 - Q * (seqM P Q m n).1) % m) = _
    rw [seq_U P Q m n]
    show (U P Q (n + 1) % m, (P * (U P Q (n + 1) % m) - Q * (U P Q n % m)) % m) = _
    rw [step_mod]
    rfl
theorem prPr : ∀ p ∈ List.range 241, prB p = true → (List.range p).all (fun u => decide (u = 0) || decide (Nat.gcd u p = 1)) = true := by decide +kernel
theorem pr_of {p : Nat} (h : prB p = true) (hp : p ≤ 240) : Pr p := by
  have h2 : 2 ≤ p := of_decide_eq_true (Bool.and_eq_true_iff.mp h).1
  refine ⟨h2, fun u h0 hu => ?_⟩
  have := List.all_eq_true.mp (prPr p (List.mem_range.mpr (by omega)) h) u (List.mem_range.mpr hu)
  simp only [Bool.or_eq_true, decide_eq_true_eq] at this
  omega
theorem Ok.pr' {Q : Int} {p : Nat} (h : Ok Q p) : Pr p := pr_of h.pr h.le
theorem rk_spec {P Q : Int} {p : Nat} (h : Ok Q p) : 1 ≤ rkN P Q p ∧ rkN P Q p ≤ p + 1 ∧ U P Q (rkN P Q p) % p = 0 ∧ ∀ k, 1 ≤ k → k < rkN P Q p → U P Q k % p ≠ 0 := by
  have hp := h.pr'
  have hQ : ¬ (p : Int) ∣ Q := fun d => h.no (Int.emod_eq_zero_of_dvd d)
  obtain ⟨n, n1, n2, n3⟩ := rank_le hp P Q hQ
  have n3 : U P Q n % p = 0 := Int.emod_eq_zero_of_dvd n3
  unfold rkN
  cases e : (List.range (p + 1)).find? fun i => decide ((seqM P Q p (i + 1)).1 = 0) with
  | none =>
    exfalso
    have := List.find?_eq_none.mp e (n - 1) (List.mem_range.mpr (by omega))
    rw [seq_U] at this
    have z : n - 1 + 1 = n := by omega
    rw [z] at this
    exact this (decide_eq_true n3)
  | some i =>
    have hi := List.find?_range_eq_some.mp e
    obtain ⟨a, b, c⟩ := hi
    have a := of_decide_eq_true a
    rw [seq_U] at a
    have b := List.mem_range.mp b
    refine ⟨by show 1 ≤ i + 1; omega, by show i + 1 ≤ p + 1; omega, a, fun k k1 k2 z => ?_⟩
    have k2 : k < i + 1 := k2
    have := c (k - 1) (by omega)
    rw [seq_U, show k - 1 + 1 = k by omega] at this
    simp [z] at this
theorem ln_raw_rank : ∀ ds R, ct_raw_rank ds R → ds.length = 2 := by
  rintro ds R ⟨P, Q, p, _, _, rfl, _⟩; rfl
theorem ln_prime_rank : ∀ ds R, ct_prime_rank ds R → ds.length = 2 := ln_raw_rank
theorem pu_raw_rank : ∀ ds R, ct_raw_rank ds R → t_raw_rank (endsOf R) (startC N_raw_rank (ds.map .sh)) := by
  rintro ds R ⟨P, Q, p, ⟨a1, a2, b1, b2⟩, hok, rfl, hR⟩
  have h2 := hok.pr'.two
  have hp : (0 : Int) < p := by omega
  obtain ⟨r1, r2, r3, r4⟩ := rk_spec (P := P) hok
  generalize rkN P Q p = r at r1 r2 r3 r4 hR
  change t_raw_rank _ [.sh (.tup [.int P, .int Q]), .sh (.int p), .un, .un]
  have ma : ∀ z, PD.MulOk P z := fun z => PD.MulOk.l (by omega) (by omega)
  have mb : ∀ z, PD.MulOk Q z := fun z => PD.MulOk.l (by omega) (by omega)
  dsimp only [t_raw_rank, sSeq, sNil, sRet, sRetN, sExpr, sIf, sSet, sSetL, sAsg, sPar, sParL, sPar3, sAug, sBreak, sCont, sNo, sApp, sExt, sSetD, fIn, fRev, fDi, sPut, sSetK, fVar, fNm, fC, fOp, fUn, fCa, fCaL, fBo, fCh, fAnd, fOr, fNot, fAndV, fOrV, fNotV, fIf, fNil, fCons, fTup, fLst, fL, gI, gI0, gAdd, PD.gSub, gMul, gDiv, gMod, gPow, gNeg, gLt, gLe, gGt, gGe, gEq, gNe, eqS, gIsN, gNotN, gIn, gNotIn, D.seq, gIx, gIxC, fIxO, fIxOC, fLenO, olAt, Cell.ols, Cell.upd, putL, gSetOC, gAbs, gInt, gLen, gTuple, gList, gMax, gMin, gInts, gBls, iLst, PD.iTup, iRg1, iRg2, gNm, gsNil, gsCons, gTu, fCall, fCallM, fCallL, fCat, gCat, gCatT, fSl, fSlT, oNone, oSome, fGet, fGet2, dicAt, dKey, fSortIt, fYes, endsOf, endsM, wipeC, restoreC, keepC, List.getElem?_cons_zero, List.getElem?_cons_succ, List.set_cons_zero, List.set_cons_succ, List.length_cons, List.length_nil, List.getElem?_nil, Nat.beq, Nat.ble, Nat.blt, Nat.reduceAdd, Nat.reduceLeDiff, Nat.reduceLT, Nat.zero_add, Nat.reduceSucc, Nat.beq_eq]
  refine ⟨hp, P, Q, 0, 1 % p, p, rfl, hp, ma _, mb _, ?_⟩
  refine ⟨fun m ρ => ∃ n : Nat, ρ = [.sh (.tup [.int P, .int Q]), .sh (.int p), .sh (.tup [.int (U P Q n % p), .int (U P Q (n + 1) % p)]), .sh (.int (n : Int))] ∧ 1 ≤ n ∧ n ≤ r ∧ m = r - n, ⟨_, 1, ?_, Nat.le_refl _, r1, rfl⟩, ?_⟩
  · have e : (P * (1 % (p : Int)) - Q * 0) % p = U P Q 2 % p := by
      have := step_mod P Q p 1 0
      rw [Int.zero_emod] at this
      exact this
    rw [e]
    rfl
  rintro m ρ ⟨n, rfl, n1, n2, rfl⟩
  try dsimp only [sSeq, sNil, sRet, sRetN, sExpr, sIf, sSet, sSetL, sAsg, sPar, sParL, sPar3, sAug, sBreak, sCont, sNo, sApp, sExt, sSetD, fIn, fRev, fDi, sPut, sSetK, fVar, fNm, fC, fOp, fUn, fCa, fCaL, fBo, fCh, fAnd, fOr, fNot, fAndV, fOrV, fNotV, fIf, fNil, fCons, fTup, fLst, fL, gI, gI0, gAdd, PD.gSub, gMul, gDiv, gMod, gPow, gNeg, gLt, gLe, gGt, gGe, gEq, gNe, eqS, gIsN, gNotN, gIn, gNotIn, D.seq, gIx, gIxC, fIxO, fIxOC, fLenO, olAt, Cell.ols, Cell.upd, putL, gSetOC, gAbs, gInt, gLen, gTuple, gList, gMax, gMin, gInts, gBls, iLst, PD.iTup, iRg1, iRg2, gNm, gsNil, gsCons, gTu, fCall, fCallM, fCallL, fCat, gCat, gCatT, fSl, fSlT, oNone, oSome, fGet, fGet2, dicAt, dKey, fSortIt, fYes, endsOf, endsM, wipeC, restoreC, keepC, List.getElem?_cons_zero, List.getElem?_cons_succ, List.set_cons_zero, List.set_cons_succ, List.length_cons, List.length_nil, List.getElem?_nil, Nat.beq, Nat.ble, Nat.blt, Nat.reduceAdd, Nat.reduceLeDiff, Nat.reduceLT, Nat.zero_add, Nat.reduceSucc, Nat.beq_eq]
  by_cases hn : n = r
  · subst hn
    rw [r3]
    exact hR
  · have z := r4 n n1 (by omega)
    rw [decide_eq_false z]
    refine ⟨P, Q, _, _, p, rfl, hp, ma _, mb _, r - (n + 1), by omega, n + 1, ?_, by omega, by omega, rfl⟩
    rw [step_mod]
    rfl
theorem pu_prime_rank : ∀ ds R, ct_prime_rank ds R → t_prime_rank (endsOf R) (startC N_prime_rank (ds.map .sh)) := by
  rintro ds R ⟨P, Q, p, hb, hok, rfl, hR⟩
  change t_prime_rank _ [.sh (.tup [.int P, .int Q]), .sh (.int p)]
  have := hok.le
  dsimp only [t_prime_rank, sSeq, sNil, sRet, sRetN, sExpr, sIf, sSet, sSetL, sAsg, sPar, sParL, sPar3, sAug, sBreak, sCont, sNo, sApp, sExt, sSetD, fIn, fRev, fDi, sPut, sSetK, fVar, fNm, fC, fOp, fUn, fCa, fCaL, fBo, fCh, fAnd, fOr, fNot, fAndV, fOrV, fNotV, fIf, fNil, fCons, fTup, fLst, fL, gI, gI0, gAdd, PD.gSub, gMul, gDiv, gMod, gPow, gNeg, gLt, gLe, gGt, gGe, gEq, gNe, eqS, gIsN, gNotN, gIn, gNotIn, D.seq, gIx, gIxC, fIxO, fIxOC, fLenO, olAt, Cell.ols, Cell.upd, putL, gSetOC, gAbs, gInt, gLen, gTuple, gList, gMax, gMin, gInts, gBls, iLst, PD.iTup, iRg1, iRg2, gNm, gsNil, gsCons, gTu, fCall, fCallM, fCallL, fCat, gCat, gCatT, fSl, fSlT, oNone, oSome, fGet, fGet2, dicAt, dKey, fSortIt, fYes, endsOf, endsM, wipeC, restoreC, keepC, List.getElem?_cons_zero, List.getElem?_cons_succ, List.set_cons_zero, List.set_cons_succ, List.length_cons, List.length_nil, List.getElem?_nil, Nat.beq, Nat.ble, Nat.blt, Nat.reduceAdd, Nat.reduceLeDiff, Nat.reduceLT, Nat.zero_add, Nat.reduceSucc, Nat.beq_eq]
  refine ifb (fun _ => ?_) (fun _ => ?_)
  · exact ⟨P, Q, p, hb, hok, rfl, hR⟩
  · refine ifb (fun _ => ?_) (fun z => absurd (show (p : Int) < 1000 by omega) z)
    exact ⟨P, Q, p, hb, hok, rfl, hR⟩
/-! doubling -/
theorem ln_bits_of : ∀ ds R, ct_bits_of ds R → ds.length = 1 := by
  rintro ds R ⟨n, rfl, _⟩; rfl
theorem fold_bits (a : Nat) : ∀ (bs : List Nat) (c : Nat), (bs ++ [a]).foldl (fun k b => 2 * k + b) c = 2 * bs.foldl (fun k b => 2 * k + b) c + a := fun bs c => by rw [List.foldl_append]; rfl
def bval : List Nat → Nat
  | [] => 0
  | b :: bs => b + 2 * bval bs
theorem bval_rev : ∀ bs : List Nat, bs.reverse.foldl (fun k b => 2 * k + b) 0 = bval bs
  | [] => rfl
  | b :: bs => by
    rw [List.reverse_cons, fold_bits, bval_rev bs]
    show 2 * bval bs + b = b + 2 * bval bs
    omega
theorem bval_app : ∀ (bs : List Nat) (b : Nat), bval (bs ++ [b]) = bval bs + 2 ^ bs.length * b
  | [], b => by simp [bval]
  | c :: bs, b => by
    show c + 2 * bval (bs ++ [b]) = c + 2 * bval bs + 2 ^ (bs.length + 1) * b
    rw [bval_app bs b, Nat.pow_succ]
    grind
theorem pu_bits_of : ∀ ds R, ct_bits_of ds R → t_bits_of (endsOf R) (startC N_bits_of (ds.map .sh)) := by
  rintro ds R ⟨n, rfl, hn, hR⟩
  change t_bits_of _ [.sh (.int n), .un]
  dsimp only [t_bits_of, sSeq, sNil, sRet, sRetN, sExpr, sIf, sSet, sSetL, sAsg, sPar, sParL, sPar3, sAug, sBreak, sCont, sNo, sApp, sExt, sSetD, fIn, fRev, fDi, sPut, sSetK, fVar, fNm, fC, fOp, fUn, fCa, fCaL, fBo, fCh, fAnd, fOr, fNot, fAndV, fOrV, fNotV, fIf, fNil, fCons, fTup, fLst, fL, gI, gI0, gAdd, PD.gSub, gMul, gDiv, gMod, gPow, gNeg, gLt, gLe, gGt, gGe, gEq, gNe, eqS, gIsN, gNotN, gIn, gNotIn, D.seq, gIx, gIxC, fIxO, fIxOC, fLenO, olAt, Cell.ols, Cell.upd, putL, gSetOC, gAbs, gInt, gLen, gTuple, gList, gMax, gMin, gInts, gBls, iLst, PD.iTup, iRg1, iRg2, gNm, gsNil, gsCons, gTu, fCall, fCallM, fCallL, fCat, gCat, gCatT, fSl, fSlT, oNone, oSome, fGet, fGet2, dicAt, dKey, fSortIt, fYes, endsOf, endsM, wipeC, restoreC, keepC, List.getElem?_cons_zero, List.getElem?_cons_succ, List.set_cons_zero, List.set_cons_succ, List.length_cons, List.length_nil, List.getElem?_nil, Nat.beq, Nat.ble, Nat.blt, Nat.reduceAdd, Nat.reduceLeDiff, Nat.reduceLT, Nat.zero_add, Nat.reduceSucc, Nat.beq_eq]
  refine ⟨fun m ρ => ∃ bs : List Nat, ρ = [.sh (.int (m : Int)), .ol (bs.map fun (b : Nat) => .int (b : Int))] ∧ bval bs + 2 ^ bs.length * m = n ∧ (∀ b ∈ bs, b ≤ 1) ∧ bs.length + m ≤ n, ⟨n, [], rfl, by simp [bval], (fun b h => by simp at h), by simp⟩, ?_⟩
  rintro m ρ ⟨bs, rfl, h1, h2, h3⟩
  try dsimp only [sSeq, sNil, sRet, sRetN, sExpr, sIf, sSet, sSetL, sAsg, sPar, sParL, sPar3, sAug, sBreak, sCont, sNo, sApp, sExt, sSetD, fIn, fRev, fDi, sPut, sSetK, fVar, fNm, fC, fOp, fUn, fCa, fCaL, fBo, fCh, fAnd, fOr, fNot, fAndV, fOrV, fNotV, fIf, fNil, fCons, fTup, fLst, fL, gI, gI0, gAdd, PD.gSub, gMul, gDiv, gMod, gPow, gNeg, gLt, gLe, gGt, gGe, gEq, gNe, eqS, gIsN, gNotN, gIn, gNotIn, D.seq, gIx, gIxC, fIxO, fIxOC, fLenO, olAt, Cell.ols, Cell.upd, putL, gSetOC, gAbs, gInt, gLen, gTuple, gList, gMax, gMin, gInts, gBls, iLst, PD.iTup, iRg1, iRg2, gNm, gsNil, gsCons, gTu, fCall, fCallM, fCallL, fCat, gCat, gCatT, fSl, fSlT, oNone, oSome, fGet, fGet2, dicAt, dKey, fSortIt, fYes, endsOf, endsM, wipeC, restoreC, keepC, List.getElem?_cons_zero, List.getElem?_cons_succ, List.set_cons_zero, List.set_cons_succ, List.length_cons, List.length_nil, List.getElem?_nil, Nat.beq, Nat.ble, Nat.blt, Nat.reduceAdd, Nat.reduceLeDiff, Nat.reduceLT, Nat.zero_add, Nat.reduceSucc, Nat.beq_eq]
  refine ifb (fun e => ?_) (fun e => ?_)
  · have e : 0 < m := by omega
    refine ⟨by decide, by rw [List.length_map]; omega, DivOk.of (by decide) (by decide) _, m / 2, by omega, bs ++ [m % 2], ?_, ?_, fun b hb => ?_, ?_⟩
    · rw [List.map_append]
      have e1 : (m : Int) / 2 = ((m / 2 : Nat) : Int) := by omega
      have e2 : (m : Int) % 2 = ((m % 2 : Nat) : Int) := by omega
      rw [e1, e2]
      rfl
    · rw [bval_app, List.length_append, List.length_singleton, Nat.pow_succ]
      have := Nat.div_add_mod m 2
      rw [← h1]
      conv => rhs; rw [← this]
      grind
    · rcases List.mem_append.mp hb with h | h
      · exact h2 b h
      · rw [List.mem_singleton.mp h]
        omega
    · rw [List.length_append, List.length_singleton]
      omega
  · obtain rfl : m = 0 := by omega
    rw [← List.map_reverse]
    refine hR bs.reverse ?_ (fun b hb => h2 b (List.mem_reverse.mp hb)) (by rw [List.length_reverse]; omega)
    rw [bval_rev]
    omega
end K84

namespace K84
open PySem PySem.Spec L2 PD RowU
theorem ln_raw_left : ∀ ds R, ct_raw_left ds R → ds.length = 3 := by
  rintro ds R ⟨P, Q, n, m, _, _, _, _, rfl, _⟩; rfl
theorem even_mod (P Q m : Int) (k : Nat) : (U P Q k % m * (2 * (U P Q (k + 1) % m) - P * (U P Q k % m))) % m = U P Q (2 * k) % m := by
  rw [U_even]
  generalize U P Q k = a
  generalize U P Q (k + 1) = b
  rw [Int.emod_def a, Int.emod_def b]
  refine mod_of (c := -(a / m) * (2 * b - P * a) + (a - m * (a / m)) * (P * (a / m) - 2 * (b / m))) ?_
  grind
theorem odd_mod (P Q m : Int) (k : Nat) : (U P Q (k + 1) % m * (U P Q (k + 1) % m) - Q * (U P Q k % m) * (U P Q k % m)) % m = U P Q (2 * k + 1) % m := by
  rw [U_odd]
  generalize U P Q k = a
  generalize U P Q (k + 1) = b
  rw [Int.emod_def a, Int.emod_def b]
  refine mod_of (c := -(2 * b * (b / m)) + m * (b / m) * (b / m) + 2 * Q * a * (a / m) - Q * m * (a / m) * (a / m)) ?_
  grind
theorem md {m z : Int} (h : 0 < m) (h2 : m ≤ 1000000) : 0 ≤ z % m ∧ z % m < 1000000 := by
  have a := Int.emod_nonneg z (show m ≠ 0 by omega)
  have b := Int.emod_lt_of_pos z h
  omega
theorem pu_raw_left : ∀ ds R, ct_raw_left ds R → t_raw_left (endsOf R) (startC N_raw_left (ds.map .sh)) := by
  rintro ds R ⟨P, Q, n, m, ⟨a1, a2, b1, b2⟩, hm, hm2, hn, rfl, hR⟩
  change t_raw_left _ [.sh (.tup [.int P, .int Q]), .sh (.int n), .sh (.int m), .un, .un, .un, .un, .un, .un]
  dsimp only [t_raw_left, sSeq, sNil, sRet, sRetN, sExpr, sIf, sSet, sSetL, sAsg, sPar, sParL, sPar3, sAug, sBreak, sCont, sNo, sApp, sExt, sSetD, fIn, fRev, fDi, sPut, sSetK, fVar, fNm, fC, fOp, fUn, fCa, fCaL, fBo, fCh, fAnd, fOr, fNot, fAndV, fOrV, fNotV, fIf, fNil, fCons, fTup, fLst, fL, gI, gI0, gAdd, PD.gSub, gMul, gDiv, gMod, gPow, gNeg, gLt, gLe, gGt, gGe, gEq, gNe, eqS, gIsN, gNotN, gIn, gNotIn, D.seq, gIx, gIxC, fIxO, fIxOC, fLenO, olAt, Cell.ols, Cell.upd, putL, gSetOC, gAbs, gInt, gLen, gTuple, gList, gMax, gMin, gInts, gBls, iLst, PD.iTup, iRg1, iRg2, gNm, gsNil, gsCons, gTu, fCall, fCallM, fCallL, fCat, gCat, gCatT, fSl, fSlT, oNone, oSome, fGet, fGet2, dicAt, dKey, fSortIt, fYes, endsOf, endsM, wipeC, restoreC, keepC, List.getElem?_cons_zero, List.getElem?_cons_succ, List.set_cons_zero, List.set_cons_succ, List.length_cons, List.length_nil, List.getElem?_nil, Nat.beq, Nat.ble, Nat.blt, Nat.reduceAdd, Nat.reduceLeDiff, Nat.reduceLT, Nat.zero_add, Nat.reduceSucc, Nat.beq_eq]
  refine ⟨hm, hm, ?_⟩
  try dsimp only [sSeq, sNil, sRet, sRetN, sExpr, sIf, sSet, sSetL, sAsg, sPar, sParL, sPar3, sAug, sBreak, sCont, sNo, sApp, sExt, sSetD, fIn, fRev, fDi, sPut, sSetK, fVar, fNm, fC, fOp, fUn, fCa, fCaL, fBo, fCh, fAnd, fOr, fNot, fAndV, fOrV, fNotV, fIf, fNil, fCons, fTup, fLst, fL, gI, gI0, gAdd, PD.gSub, gMul, gDiv, gMod, gPow, gNeg, gLt, gLe, gGt, gGe, gEq, gNe, eqS, gIsN, gNotN, gIn, gNotIn, D.seq, gIx, gIxC, fIxO, fIxOC, fLenO, olAt, Cell.ols, Cell.upd, putL, gSetOC, gAbs, gInt, gLen, gTuple, gList, gMax, gMin, gInts, gBls, iLst, PD.iTup, iRg1, iRg2, gNm, gsNil, gsCons, gTu, fCall, fCallM, fCallL, fCat, gCat, gCatT, fSl, fSlT, oNone, oSome, fGet, fGet2, dicAt, dKey, fSortIt, fYes, endsOf, endsM, wipeC, restoreC, keepC, List.getElem?_cons_zero, List.getElem?_cons_succ, List.set_cons_zero, List.set_cons_succ, List.length_cons, List.length_nil, List.getElem?_nil, Nat.beq, Nat.ble, Nat.blt, Nat.reduceAdd, Nat.reduceLeDiff, Nat.reduceLT, Nat.zero_add, Nat.reduceSucc, Nat.beq_eq]
  refine ⟨n, rfl, hn, fun bs hb h1 hl => ?_⟩
  try dsimp only [sSeq, sNil, sRet, sRetN, sExpr, sIf, sSet, sSetL, sAsg, sPar, sParL, sPar3, sAug, sBreak, sCont, sNo, sApp, sExt, sSetD, fIn, fRev, fDi, sPut, sSetK, fVar, fNm, fC, fOp, fUn, fCa, fCaL, fBo, fCh, fAnd, fOr, fNot, fAndV, fOrV, fNotV, fIf, fNil, fCons, fTup, fLst, fL, gI, gI0, gAdd, PD.gSub, gMul, gDiv, gMod, gPow, gNeg, gLt, gLe, gGt, gGe, gEq, gNe, eqS, gIsN, gNotN, gIn, gNotIn, D.seq, gIx, gIxC, fIxO, fIxOC, fLenO, olAt, Cell.ols, Cell.upd, putL, gSetOC, gAbs, gInt, gLen, gTuple, gList, gMax, gMin, gInts, gBls, iLst, PD.iTup, iRg1, iRg2, gNm, gsNil, gsCons, gTu, fCall, fCallM, fCallL, fCat, gCat, gCatT, fSl, fSlT, oNone, oSome, fGet, fGet2, dicAt, dKey, fSortIt, fYes, endsOf, endsM, wipeC, restoreC, keepC, List.getElem?_cons_zero, List.getElem?_cons_succ, List.set_cons_zero, List.set_cons_succ, List.length_cons, List.length_nil, List.getElem?_nil, Nat.beq, Nat.ble, Nat.blt, Nat.reduceAdd, Nat.reduceLeDiff, Nat.reduceLT, Nat.zero_add, Nat.reduceSucc, Nat.beq_eq]
  refine ⟨fun i ρ => ∃ (c : Cell) (k : Nat) (w : Int), ρ = [.sh (.tup [.int P, .int Q]), .sh (.int n), .sh (.int m), c, .sh (.int P), .sh (.int Q), .sh (.int (U P Q k % m)), .sh (.int (U P Q (k + 1) % m)), .sh (.int w)] ∧ k = (bs.take i).foldl (fun k b => 2 * k + b) 0 ∧ 0 ≤ w ∧ w < 1000000, ⟨.un, 0, 1 % m, ?_, rfl, (md hm hm2).1, (md hm hm2).2⟩, ?_, ?_⟩
  · show _ = [Cell.sh (.tup [.int P, .int Q]), .sh (.int n), .sh (.int m), .un, .sh (.int P), .sh (.int Q), .sh (.int ((0 : Int) % m)), .sh (.int ((1 : Int) % m)), .sh (.int (1 % m))]
    rw [Int.zero_emod]
  · rintro i d ρ hd ⟨c, k, w, rfl, hk, w0, w1⟩
    obtain ⟨b, hb2, rfl⟩ : ∃ b : Nat, bs[i]? = some b ∧ d = .int (b : Int) := by
      rw [List.getElem?_map] at hd
      cases e : bs[i]? with
      | none => rw [e] at hd; cases hd
      | some b => rw [e] at hd; exact ⟨b, rfl, (Option.some.inj hd).symm⟩
    have hb1 := h1 b (List.mem_of_getElem? hb2)
    have nk : (bs.take (i + 1)).foldl (fun k b => 2 * k + b) 0 = 2 * k + b := by
      obtain ⟨hlt, ed⟩ := List.getElem?_eq_some_iff.mp hb2
      rw [List.take_succ_eq_append_getElem hlt, List.foldl_append, ed, ← hk]
      rfl
    try dsimp only [sSeq, sNil, sRet, sRetN, sExpr, sIf, sSet, sSetL, sAsg, sPar, sParL, sPar3, sAug, sBreak, sCont, sNo, sApp, sExt, sSetD, fIn, fRev, fDi, sPut, sSetK, fVar, fNm, fC, fOp, fUn, fCa, fCaL, fBo, fCh, fAnd, fOr, fNot, fAndV, fOrV, fNotV, fIf, fNil, fCons, fTup, fLst, fL, gI, gI0, gAdd, PD.gSub, gMul, gDiv, gMod, gPow, gNeg, gLt, gLe, gGt, gGe, gEq, gNe, eqS, gIsN, gNotN, gIn, gNotIn, D.seq, gIx, gIxC, fIxO, fIxOC, fLenO, olAt, Cell.ols, Cell.upd, putL, gSetOC, gAbs, gInt, gLen, gTuple, gList, gMax, gMin, gInts, gBls, iLst, PD.iTup, iRg1, iRg2, gNm, gsNil, gsCons, gTu, fCall, fCallM, fCallL, fCat, gCat, gCatT, fSl, fSlT, oNone, oSome, fGet, fGet2, dicAt, dKey, fSortIt, fYes, endsOf, endsM, wipeC, restoreC, keepC, List.getElem?_cons_zero, List.getElem?_cons_succ, List.set_cons_zero, List.set_cons_succ, List.length_cons, List.length_nil, List.getElem?_nil, Nat.beq, Nat.ble, Nat.blt, Nat.reduceAdd, Nat.reduceLeDiff, Nat.reduceLT, Nat.zero_add, Nat.reduceSucc, Nat.beq_eq]
    have u0 := md (z := U P Q k) hm hm2
    have u1 := md (z := U P Q (k + 1)) hm hm2
    have e0 := even_mod P Q m k
    have e1 := odd_mod P Q m k
    have v0 := md (z := U P Q (2 * k)) hm hm2
    have v1 := md (z := U P Q (2 * k + 1)) hm hm2
    have ww := md (z := w * w) hm hm2
    repeat (refine ⟨by first | exact hm | exact PD.MulOk.l (by omega) (by omega) | exact PD.MulOk.r (by omega) (by omega), ?_⟩)
    rw [e0, e1]
    refine ifb (fun e => ?_) (fun e => ?_)
    · have e : b = 1 := by
        have e : (b : Int) = 1 := e
        omega
      repeat (refine ⟨by first | exact hm | exact PD.MulOk.l (by omega) (by omega) | exact PD.MulOk.r (by omega) (by omega), ?_⟩)
      refine ⟨.sh (.int (b : Int)), 2 * k + 1, (w * w % m * Q) % m, ?_, by rw [nk, e], (md hm hm2).1, (md hm hm2).2⟩
      rw [step_mod]
      rfl
    · have e : b = 0 := by
        have e : ¬ (b : Int) = 1 := e
        omega
      exact ⟨_, 2 * k, _, rfl, by rw [nk, e]; rfl, ww.1, ww.2⟩
  · rintro ρ ⟨c, k, w, rfl, hk, w0, w1⟩
    rw [List.length_map, List.take_length, hb] at hk
    subst hk
    exact hR w
theorem ln_has_left : ∀ ds R, ct_has_left ds R → ds.length = 3 := by
  rintro ds R ⟨P, Q, n, m, _, _, _, _, rfl, _⟩; rfl
theorem pu_has_left : ∀ ds R, ct_has_left ds R → t_has_left (endsOf R) (startC N_has_left (ds.map .sh)) := by
  rintro ds R ⟨P, Q, n, m, hb, hm, hm2, hn, rfl, hR⟩
  change t_has_left _ [.sh (.tup [.int P, .int Q]), .sh (.int n), .sh (.int m)]
  dsimp only [t_has_left, sSeq, sNil, sRet, sRetN, sExpr, sIf, sSet, sSetL, sAsg, sPar, sParL, sPar3, sAug, sBreak, sCont, sNo, sApp, sExt, sSetD, fIn, fRev, fDi, sPut, sSetK, fVar, fNm, fC, fOp, fUn, fCa, fCaL, fBo, fCh, fAnd, fOr, fNot, fAndV, fOrV, fNotV, fIf, fNil, fCons, fTup, fLst, fL, gI, gI0, gAdd, PD.gSub, gMul, gDiv, gMod, gPow, gNeg, gLt, gLe, gGt, gGe, gEq, gNe, eqS, gIsN, gNotN, gIn, gNotIn, D.seq, gIx, gIxC, fIxO, fIxOC, fLenO, olAt, Cell.ols, Cell.upd, putL, gSetOC, gAbs, gInt, gLen, gTuple, gList, gMax, gMin, gInts, gBls, iLst, PD.iTup, iRg1, iRg2, gNm, gsNil, gsCons, gTu, fCall, fCallM, fCallL, fCat, gCat, gCatT, fSl, fSlT, oNone, oSome, fGet, fGet2, dicAt, dKey, fSortIt, fYes, endsOf, endsM, wipeC, restoreC, keepC, List.getElem?_cons_zero, List.getElem?_cons_succ, List.set_cons_zero, List.set_cons_succ, List.length_cons, List.length_nil, List.getElem?_nil, Nat.beq, Nat.ble, Nat.blt, Nat.reduceAdd, Nat.reduceLeDiff, Nat.reduceLT, Nat.zero_add, Nat.reduceSucc, Nat.beq_eq]
  exact ⟨P, Q, n, m, hb, hm, hm2, hn, rfl, fun w => hR⟩
theorem ln_rank_list : ∀ ds R, ct_rank_list ds R → ds.length = 3 := by
  rintro ds R ⟨P, Q, p, _, _, rfl, _⟩; rfl
theorem last_one (d : D) : atI [d] (-1) = some d := rfl
theorem pu_rank_list : ∀ ds R, ct_rank_list ds R → t_rank_list (endsOf R) (startC N_rank_list (ds.map .sh)) := by
  rintro ds R ⟨P, Q, p, hb, hok, rfl, hR⟩
  have h2 := hok.pr'.two
  have hle := hok.le
  obtain ⟨r1, r2, _, _⟩ := rk_spec (P := P) hok
  change t_rank_list _ [.sh (.tup [.int P, .int Q]), .sh (.int p), .sh (.int 2), .un, .un, .un]
  dsimp only [t_rank_list, sSeq, sNil, sRet, sRetN, sExpr, sIf, sSet, sSetL, sAsg, sPar, sParL, sPar3, sAug, sBreak, sCont, sNo, sApp, sExt, sSetD, fIn, fRev, fDi, sPut, sSetK, fVar, fNm, fC, fOp, fUn, fCa, fCaL, fBo, fCh, fAnd, fOr, fNot, fAndV, fOrV, fNotV, fIf, fNil, fCons, fTup, fLst, fL, gI, gI0, gAdd, PD.gSub, gMul, gDiv, gMod, gPow, gNeg, gLt, gLe, gGt, gGe, gEq, gNe, eqS, gIsN, gNotN, gIn, gNotIn, D.seq, gIx, gIxC, fIxO, fIxOC, fLenO, olAt, Cell.ols, Cell.upd, putL, gSetOC, gAbs, gInt, gLen, gTuple, gList, gMax, gMin, gInts, gBls, iLst, PD.iTup, iRg1, iRg2, gNm, gsNil, gsCons, gTu, fCall, fCallM, fCallL, fCat, gCat, gCatT, fSl, fSlT, oNone, oSome, fGet, fGet2, dicAt, dKey, fSortIt, fYes, endsOf, endsM, wipeC, restoreC, keepC, List.getElem?_cons_zero, List.getElem?_cons_succ, List.set_cons_zero, List.set_cons_succ, List.length_cons, List.length_nil, List.getElem?_nil, Nat.beq, Nat.ble, Nat.blt, Nat.reduceAdd, Nat.reduceLeDiff, Nat.reduceLT, Nat.zero_add, Nat.reduceSucc, Nat.beq_eq]
  refine ⟨P, Q, p, hb, hok, rfl, RgOk.of (by decide) (by decide), ?_⟩
  try dsimp only [sSeq, sNil, sRet, sRetN, sExpr, sIf, sSet, sSetL, sAsg, sPar, sParL, sPar3, sAug, sBreak, sCont, sNo, sApp, sExt, sSetD, fIn, fRev, fDi, sPut, sSetK, fVar, fNm, fC, fOp, fUn, fCa, fCaL, fBo, fCh, fAnd, fOr, fNot, fAndV, fOrV, fNotV, fIf, fNil, fCons, fTup, fLst, fL, gI, gI0, gAdd, PD.gSub, gMul, gDiv, gMod, gPow, gNeg, gLt, gLe, gGt, gGe, gEq, gNe, eqS, gIsN, gNotN, gIn, gNotIn, D.seq, gIx, gIxC, fIxO, fIxOC, fLenO, olAt, Cell.ols, Cell.upd, putL, gSetOC, gAbs, gInt, gLen, gTuple, gList, gMax, gMin, gInts, gBls, iLst, PD.iTup, iRg1, iRg2, gNm, gsNil, gsCons, gTu, fCall, fCallM, fCallL, fCat, gCat, gCatT, fSl, fSlT, oNone, oSome, fGet, fGet2, dicAt, dKey, fSortIt, fYes, endsOf, endsM, wipeC, restoreC, keepC, List.getElem?_cons_zero, List.getElem?_cons_succ, List.set_cons_zero, List.set_cons_succ, List.length_cons, List.length_nil, List.getElem?_nil, Nat.beq, Nat.ble, Nat.blt, Nat.reduceAdd, Nat.reduceLeDiff, Nat.reduceLT, Nat.zero_add, Nat.reduceSucc, Nat.beq_eq]
  unfold twice at hR
  generalize hr : rkN P Q p = r at r1 r2 hR ⊢
  refine ⟨fun i ρ => (i = 0 ∧ ρ = [.sh (.tup [.int P, .int Q]), .sh (.int p), .sh (.int 2), .un, .ol [.int (r : Int)], .sh (.int p)]) ∨ (i = 1 ∧ ∃ c3 c5 x, ρ = [.sh (.tup [.int P, .int Q]), .sh (.int p), .sh (.int 2), c3, .ol [.int (r : Int), x], c5] ∧ R (.lst [.int (r : Int), x])), .inl ⟨rfl, rfl⟩, ?_, ?_⟩
  · rintro i d ρ hd hρ
    obtain ⟨hi, rfl⟩ := rg_get hd
    have hi : i < 1 := hi
    obtain ⟨rfl, rfl⟩ : i = 0 ∧ ρ = [.sh (.tup [.int P, .int Q]), .sh (.int p), .sh (.int 2), .un, .ol [.int (r : Int)], .sh (.int p)] := by
      rcases hρ with h | ⟨h, _⟩
      · exact h
      · omega
    try dsimp only [sSeq, sNil, sRet, sRetN, sExpr, sIf, sSet, sSetL, sAsg, sPar, sParL, sPar3, sAug, sBreak, sCont, sNo, sApp, sExt, sSetD, fIn, fRev, fDi, sPut, sSetK, fVar, fNm, fC, fOp, fUn, fCa, fCaL, fBo, fCh, fAnd, fOr, fNot, fAndV, fOrV, fNotV, fIf, fNil, fCons, fTup, fLst, fL, gI, gI0, gAdd, PD.gSub, gMul, gDiv, gMod, gPow, gNeg, gLt, gLe, gGt, gGe, gEq, gNe, eqS, gIsN, gNotN, gIn, gNotIn, D.seq, gIx, gIxC, fIxO, fIxOC, fLenO, olAt, Cell.ols, Cell.upd, putL, gSetOC, gAbs, gInt, gLen, gTuple, gList, gMax, gMin, gInts, gBls, iLst, PD.iTup, iRg1, iRg2, gNm, gsNil, gsCons, gTu, fCall, fCallM, fCallL, fCat, gCat, gCatT, fSl, fSlT, oNone, oSome, fGet, fGet2, dicAt, dKey, fSortIt, fYes, endsOf, endsM, wipeC, restoreC, keepC, List.getElem?_cons_zero, List.getElem?_cons_succ, List.set_cons_zero, List.set_cons_succ, List.length_cons, List.length_nil, List.getElem?_nil, Nat.beq, Nat.ble, Nat.blt, Nat.reduceAdd, Nat.reduceLeDiff, Nat.reduceLT, Nat.zero_add, Nat.reduceSucc, Nat.beq_eq]
    have hpp : ((p : Int) * p) = ((p * p : Nat) : Int) := by rw [Int.natCast_mul]
    have hm1 : p * p ≤ 240 * 240 := Nat.mul_le_mul hle hle
    have hm0 : 0 < p * p := Nat.mul_pos (by omega) (by omega)
    refine ⟨PD.MulOk.l (by omega) (by omega), _, last_one _, P, Q, r, (p : Int) * p, hb, by rw [hpp]; omega, by rw [hpp]; omega, by omega, rfl, ?_⟩
    refine ifb (fun e => ?_) (fun e => ?_)
    · rw [if_pos (decide_eq_true e)] at hR
      exact ⟨_, last_one _, (show 1 ≤ 1000000 by decide), .inr ⟨rfl, _, _, _, rfl, hR⟩⟩
    · rw [if_neg (by rw [decide_eq_false e]; exact Bool.false_ne_true)] at hR
      exact ⟨_, last_one _, PD.MulOk.l (by omega) (by omega), (show 1 ≤ 1000000 by decide), .inr ⟨rfl, _, _, _, rfl, hR⟩⟩
  · rintro ρ (⟨h, _⟩ | ⟨_, c3, c5, x, rfl, hx⟩)
    · cases h
    · exact hx
end K84

namespace K84
open PySem PySem.Spec L2 PD RowU
theorem prim_ok : ∀ n ∈ List.range 241, 2 ≤ n → (match runW facC facS 20 ((n : Int), 2, []) with
    | some s => okEq (.lst ((facE s).map pairD)) (.lst [.tup [.int (n : Int), .int 1]]) && (eqD (.lst ((facE s).map pairD)) (.lst [.tup [.int (n : Int), .int 1]]) == prB n)
    | none => false) = true := by decide +kernel
theorem ln_is_prime : ∀ ds R, ct_is_prime ds R → ds.length = 1 := by
  rintro ds R ⟨n, rfl, _⟩; rfl
theorem pu_is_prime : ∀ ds R, ct_is_prime ds R → t_is_prime (endsOf R) (startC N_is_prime (ds.map .sh)) := by
  rintro ds R ⟨n, rfl, h1, h2, hR⟩
  have h := prim_ok n (List.mem_range.mpr (by omega)) h1
  refine ifb (fun _ => ?_) (fun z => absurd (show (1 : Int) < n by omega) z)
  cases e : runW facC facS 20 ((n : Int), 2, []) with
  | none => rw [e] at h; cases h
  | some s =>
    rw [e] at h
    obtain ⟨a, b⟩ := Bool.and_eq_true_iff.mp h
    have b := beq_iff_eq.mp b
    refine ⟨n, 20, s, rfl, by omega, by omega, e, a, ?_⟩
    rw [b]
    exact hR
theorem ln__law_is_prime : ∀ ds R, ct__law_is_prime ds R → ds.length = 1 := by
  rintro ds R ⟨n, rfl, _⟩; rfl
theorem pr_small : ∀ n ∈ List.range 241, 2 ≤ n → ((List.range 16).all fun e => decide (e < 2) || decide (n < e * e) || decide (n % e ≠ 0)) = true → prB n = true := by decide +kernel
theorem pr_not {n d : Nat} (h2 : 2 ≤ d) (hd : d < n) (e : n % d = 0) : prB n = false := by
  unfold prB
  rw [Bool.and_eq_false_iff]
  refine .inr (List.all_eq_false.mpr ⟨d, List.mem_range.mpr hd, ?_⟩)
  simp [e]
  omega
theorem pu__law_is_prime : ∀ ds R, ct__law_is_prime ds R → t__law_is_prime (endsOf R) (startC N__law_is_prime (ds.map .sh)) := by
  rintro ds R ⟨n, rfl, h1, h2, hR⟩
  change t__law_is_prime _ [.sh (.int n), .un]
  dsimp only [t__law_is_prime, sSeq, sNil, sRet, sRetN, sExpr, sIf, sSet, sSetL, sAsg, sPar, sParL, sPar3, sAug, sBreak, sCont, sNo, sApp, sExt, sSetD, fIn, fRev, fDi, sPut, sSetK, fVar, fNm, fC, fOp, fUn, fCa, fCaL, fBo, fCh, fAnd, fOr, fNot, fAndV, fOrV, fNotV, fIf, fNil, fCons, fTup, fLst, fL, gI, gI0, gAdd, PD.gSub, gMul, gDiv, gMod, gPow, gNeg, gLt, gLe, gGt, gGe, gEq, gNe, eqS, gIsN, gNotN, gIn, gNotIn, D.seq, gIx, gIxC, fIxO, fIxOC, fLenO, olAt, Cell.ols, Cell.upd, putL, gSetOC, gAbs, gInt, gLen, gTuple, gList, gMax, gMin, gInts, gBls, iLst, PD.iTup, iRg1, iRg2, gNm, gsNil, gsCons, gTu, fCall, fCallM, fCallL, fCat, gCat, gCatT, fSl, fSlT, oNone, oSome, fGet, fGet2, dicAt, dKey, fSortIt, fYes, endsOf, endsM, wipeC, restoreC, keepC, List.getElem?_cons_zero, List.getElem?_cons_succ, List.set_cons_zero, List.set_cons_succ, List.length_cons, List.length_nil, List.getElem?_nil, Nat.beq, Nat.ble, Nat.blt, Nat.reduceAdd, Nat.reduceLeDiff, Nat.reduceLT, Nat.zero_add, Nat.reduceSucc, Nat.beq_eq]
  refine ifb (fun z => absurd z (by omega)) (fun _ => ?_)
  refine ⟨fun m ρ => ∃ d : Nat, ρ = [.sh (.int n), .sh (.int (d : Int))] ∧ 2 ≤ d ∧ d ≤ 16 ∧ (∀ e, 2 ≤ e → e < d → n % e ≠ 0) ∧ m = 16 - d, ⟨_, 2, rfl, by decide, by decide, fun e a b => by omega, rfl⟩, ?_⟩
  rintro m ρ ⟨d, rfl, d1, d2, d3, rfl⟩
  try dsimp only [sSeq, sNil, sRet, sRetN, sExpr, sIf, sSet, sSetL, sAsg, sPar, sParL, sPar3, sAug, sBreak, sCont, sNo, sApp, sExt, sSetD, fIn, fRev, fDi, sPut, sSetK, fVar, fNm, fC, fOp, fUn, fCa, fCaL, fBo, fCh, fAnd, fOr, fNot, fAndV, fOrV, fNotV, fIf, fNil, fCons, fTup, fLst, fL, gI, gI0, gAdd, PD.gSub, gMul, gDiv, gMod, gPow, gNeg, gLt, gLe, gGt, gGe, gEq, gNe, eqS, gIsN, gNotN, gIn, gNotIn, D.seq, gIx, gIxC, fIxO, fIxOC, fLenO, olAt, Cell.ols, Cell.upd, putL, gSetOC, gAbs, gInt, gLen, gTuple, gList, gMax, gMin, gInts, gBls, iLst, PD.iTup, iRg1, iRg2, gNm, gsNil, gsCons, gTu, fCall, fCallM, fCallL, fCat, gCat, gCatT, fSl, fSlT, oNone, oSome, fGet, fGet2, dicAt, dKey, fSortIt, fYes, endsOf, endsM, wipeC, restoreC, keepC, List.getElem?_cons_zero, List.getElem?_cons_succ, List.set_cons_zero, List.set_cons_succ, List.length_cons, List.length_nil, List.getElem?_nil, Nat.beq, Nat.ble, Nat.blt, Nat.reduceAdd, Nat.reduceLeDiff, Nat.reduceLT, Nat.zero_add, Nat.reduceSucc, Nat.beq_eq]
  have edd : (d : Int) * d = ((d * d : Nat) : Int) := by rw [Int.natCast_mul]
  refine ⟨PD.MulOk.l (by omega) (by omega), ifb (fun e => ?_) (fun e => ?_)⟩
  · have e : d * d ≤ n := by
      rw [edd] at e
      omega
    have d16 : d < 16 := by
      refine Nat.lt_of_not_le fun z => ?_
      have := Nat.mul_le_mul z z
      omega
    have dn : d < n := by
      have := Nat.mul_le_mul_right d d1
      omega
    refine ⟨by show (0 : Int) < d; omega, ifb (fun z => ?_) (fun z => ?_)⟩
    · have z : n % d = 0 := by
        have z : (n : Int) % (d : Int) = 0 := z
        omega
      rw [pr_not d1 dn z] at hR
      exact hR
    · have z : n % d ≠ 0 := fun w => z (by show (n : Int) % (d : Int) = 0; omega)
      refine ⟨16 - (d + 1), by omega, d + 1, rfl, by omega, by omega, fun e a b => ?_, rfl⟩
      by_cases h : e = d
      · rw [h]; exact z
      · exact d3 e a (by omega)
  · have e : n < d * d := by
      rw [edd] at e
      omega
    have := pr_small n (List.mem_range.mpr (by omega)) h1 (List.all_eq_true.mpr fun k hk => ?_)
    · rw [this] at hR
      exact hR
    · simp only [Bool.or_eq_true, decide_eq_true_eq]
      by_cases a : k < 2
      · exact .inl (.inl a)
      by_cases b : n < k * k
      · exact .inl (.inr b)
      refine .inr (d3 k (by omega) ?_)
      refine Nat.lt_of_not_le fun z => b ?_
      exact Nat.lt_of_lt_of_le e (Nat.mul_le_mul z z)
end K84

namespace K84
open PySem PySem.Spec L2 PD RowU
theorem lst_ok {P Q : Int} {most p : Nat} (hm : most ≤ 240) (h : p ∈ lst Q most) : Ok Q p ∧ 2 ≤ p ∧ p ≤ most := by
  obtain ⟨h1, h2⟩ := List.mem_filter.mp h
  obtain ⟨i, hi, rfl⟩ := List.mem_map.mp h1
  have hi := List.mem_range.mp hi
  obtain ⟨a, b⟩ := Bool.and_eq_true_iff.mp h2
  exact ⟨⟨a, by omega, of_decide_eq_true b⟩, by omega, by omega⟩
theorem lst_len (Q : Int) (most : Nat) : (lst Q most).length ≤ most := by
  refine Nat.le_trans (List.length_filter_le _ _) ?_
  rw [List.length_map, List.length_range]
  omega
theorem ln_is_base : ∀ ds R, ct_is_base ds R → ds.length = 1 := by
  rintro ds R ⟨P, Q, _, rfl, _⟩; rfl
theorem isi_tup (xs : List D) : isiD "tuple" (.tup xs) = some true := rfl
theorem pu_is_base : ∀ ds R, ct_is_base ds R → t_is_base (endsOf R) (startC N_is_base (ds.map .sh)) := by
  rintro ds R ⟨P, Q, ⟨a1, a2, b1, b2⟩, rfl, hR⟩
  change t_is_base _ [.sh (.tup [.int P, .int Q]), .un]
  dsimp only [t_is_base, sSeq, sNil, sRet, sRetN, sExpr, sIf, sSet, sSetL, sAsg, sPar, sParL, sPar3, sAug, sBreak, sCont, sNo, sApp, sExt, sSetD, fIn, fRev, fDi, sPut, sSetK, fVar, fNm, fC, fOp, fUn, fCa, fCaL, fBo, fCh, fAnd, fOr, fNot, fAndV, fOrV, fNotV, fIf, fNil, fCons, fTup, fLst, fL, gI, gI0, gAdd, PD.gSub, gMul, gDiv, gMod, gPow, gNeg, gLt, gLe, gGt, gGe, gEq, gNe, eqS, gIsN, gNotN, gIn, gNotIn, D.seq, gIx, gIxC, fIxO, fIxOC, fLenO, olAt, Cell.ols, Cell.upd, putL, gSetOC, gAbs, gInt, gLen, gTuple, gList, gMax, gMin, gInts, gBls, iLst, PD.iTup, iRg1, iRg2, gNm, gsNil, gsCons, gTu, fCall, fCallM, fCallL, fCat, gCat, gCatT, fSl, fSlT, oNone, oSome, fGet, fGet2, dicAt, dKey, fSortIt, fYes, endsOf, endsM, wipeC, restoreC, keepC, List.getElem?_cons_zero, List.getElem?_cons_succ, List.set_cons_zero, List.set_cons_succ, List.length_cons, List.length_nil, List.getElem?_nil, Nat.beq, Nat.ble, Nat.blt, Nat.reduceAdd, Nat.reduceLeDiff, Nat.reduceLT, Nat.zero_add, Nat.reduceSucc, Nat.beq_eq, fIsi]
  rw [isi_tup]
  try dsimp only [sSeq, sNil, sRet, sRetN, sExpr, sIf, sSet, sSetL, sAsg, sPar, sParL, sPar3, sAug, sBreak, sCont, sNo, sApp, sExt, sSetD, fIn, fRev, fDi, sPut, sSetK, fVar, fNm, fC, fOp, fUn, fCa, fCaL, fBo, fCh, fAnd, fOr, fNot, fAndV, fOrV, fNotV, fIf, fNil, fCons, fTup, fLst, fL, gI, gI0, gAdd, PD.gSub, gMul, gDiv, gMod, gPow, gNeg, gLt, gLe, gGt, gGe, gEq, gNe, eqS, gIsN, gNotN, gIn, gNotIn, D.seq, gIx, gIxC, fIxO, fIxOC, fLenO, olAt, Cell.ols, Cell.upd, putL, gSetOC, gAbs, gInt, gLen, gTuple, gList, gMax, gMin, gInts, gBls, iLst, PD.iTup, iRg1, iRg2, gNm, gsNil, gsCons, gTu, fCall, fCallM, fCallL, fCat, gCat, gCatT, fSl, fSlT, oNone, oSome, fGet, fGet2, dicAt, dKey, fSortIt, fYes, endsOf, endsM, wipeC, restoreC, keepC, List.getElem?_cons_zero, List.getElem?_cons_succ, List.set_cons_zero, List.set_cons_succ, List.length_cons, List.length_nil, List.getElem?_nil, Nat.beq, Nat.ble, Nat.blt, Nat.reduceAdd, Nat.reduceLeDiff, Nat.reduceLT, Nat.zero_add, Nat.reduceSucc, Nat.beq_eq]
  refine ifF ?_
  refine ifF ?_
  refine fLc_i ?_
  try dsimp only [sSeq, sNil, sRet, sRetN, sExpr, sIf, sSet, sSetL, sAsg, sPar, sParL, sPar3, sAug, sBreak, sCont, sNo, sApp, sExt, sSetD, fIn, fRev, fDi, sPut, sSetK, fVar, fNm, fC, fOp, fUn, fCa, fCaL, fBo, fCh, fAnd, fOr, fNot, fAndV, fOrV, fNotV, fIf, fNil, fCons, fTup, fLst, fL, gI, gI0, gAdd, PD.gSub, gMul, gDiv, gMod, gPow, gNeg, gLt, gLe, gGt, gGe, gEq, gNe, eqS, gIsN, gNotN, gIn, gNotIn, D.seq, gIx, gIxC, fIxO, fIxOC, fLenO, olAt, Cell.ols, Cell.upd, putL, gSetOC, gAbs, gInt, gLen, gTuple, gList, gMax, gMin, gInts, gBls, iLst, PD.iTup, iRg1, iRg2, gNm, gsNil, gsCons, gTu, fCall, fCallM, fCallL, fCat, gCat, gCatT, fSl, fSlT, oNone, oSome, fGet, fGet2, dicAt, dKey, fSortIt, fYes, endsOf, endsM, wipeC, restoreC, keepC, List.getElem?_cons_zero, List.getElem?_cons_succ, List.set_cons_zero, List.set_cons_succ, List.length_cons, List.length_nil, List.getElem?_nil, Nat.beq, Nat.ble, Nat.blt, Nat.reduceAdd, Nat.reduceLeDiff, Nat.reduceLT, Nat.zero_add, Nat.reduceSucc, Nat.beq_eq]
  refine lc_run (items := [.int P, .int Q]) (fun _ => true) (fun _ => .bl true) (show 2 ≤ 1000000 by decide) (fun d hd P1 P0 k1 k0 => ?_) ?_
  · obtain ⟨z, rfl, z1, z2⟩ : ∃ z : Int, d = .int z ∧ -100 ≤ z ∧ z ≤ 100 := by
      rcases List.mem_cons.mp hd with rfl | hd
      · exact ⟨P, rfl, a1, a2⟩
      · rw [List.mem_singleton.mp hd]
        exact ⟨Q, rfl, b1, b2⟩
    try dsimp only [sSeq, sNil, sRet, sRetN, sExpr, sIf, sSet, sSetL, sAsg, sPar, sParL, sPar3, sAug, sBreak, sCont, sNo, sApp, sExt, sSetD, fIn, fRev, fDi, sPut, sSetK, fVar, fNm, fC, fOp, fUn, fCa, fCaL, fBo, fCh, fAnd, fOr, fNot, fAndV, fOrV, fNotV, fIf, fNil, fCons, fTup, fLst, fL, gI, gI0, gAdd, PD.gSub, gMul, gDiv, gMod, gPow, gNeg, gLt, gLe, gGt, gGe, gEq, gNe, eqS, gIsN, gNotN, gIn, gNotIn, D.seq, gIx, gIxC, fIxO, fIxOC, fLenO, olAt, Cell.ols, Cell.upd, putL, gSetOC, gAbs, gInt, gLen, gTuple, gList, gMax, gMin, gInts, gBls, iLst, PD.iTup, iRg1, iRg2, gNm, gsNil, gsCons, gTu, fCall, fCallM, fCallL, fCat, gCat, gCatT, fSl, fSlT, oNone, oSome, fGet, fGet2, dicAt, dKey, fSortIt, fYes, endsOf, endsM, wipeC, restoreC, keepC, List.getElem?_cons_zero, List.getElem?_cons_succ, List.set_cons_zero, List.set_cons_succ, List.length_cons, List.length_nil, List.getElem?_nil, Nat.beq, Nat.ble, Nat.blt, Nat.reduceAdd, Nat.reduceLeDiff, Nat.reduceLT, Nat.zero_add, Nat.reduceSucc, Nat.beq_eq]
    rw [if_pos rfl]
    refine ⟨z, -100, 100, rfl, ?_⟩
    rw [decide_eq_true z1, decide_eq_true z2]
    exact k1 rfl _ rfl
  · exact ⟨[true, true], rfl, hR⟩
theorem ln_check_base : ∀ ds R, ct_check_base ds R → ds.length = 1 := by
  rintro ds R ⟨P, Q, _, rfl, _⟩; rfl
theorem pu_check_base : ∀ ds R, ct_check_base ds R → t_check_base (endsOf R) (startC N_check_base (ds.map .sh)) := by
  rintro ds R ⟨P, Q, hb, rfl, hR⟩
  exact ⟨P, Q, hb, rfl, ifF hR⟩
theorem ln_check_listed : ∀ ds R, ct_check_listed ds R → ds.length = 2 := by
  rintro ds R ⟨P, Q, most, _, _, _, rfl, _⟩; rfl
theorem pu_check_listed : ∀ ds R, ct_check_listed ds R → t_check_listed (endsOf R) (startC N_check_listed (ds.map .sh)) := by
  rintro ds R ⟨P, Q, most, hb, h1, h2, rfl, hR⟩
  exact ⟨P, Q, hb, rfl, (most : Int), 2, 2000, rfl, by omega, by omega, hR⟩
theorem ln_listed : ∀ ds R, ct_listed ds R → ds.length = 2 := by
  rintro ds R ⟨P, Q, most, _, _, _, rfl, _⟩; rfl
def cnd (Q : Int) (d : D) : Bool := match d with
  | .int p => prB p.toNat && decide (Q % p ≠ 0)
  | _ => false
theorem rg_lst (Q : Int) (most : Nat) (h : 2 ≤ most) : ((rgD 2 ((most : Int) + 1 - 2).toNat).filter (cnd Q)).map (fun d => d) = (lst Q most).map fun (p : Nat) => .int (p : Int) := by
  have e : ((most : Int) + 1 - 2).toNat = most - 1 := by omega
  rw [e, List.map_id']
  unfold rgD lst
  rw [List.filter_map, List.filter_map, List.map_map]
  have e1 : (List.range (most - 1)).filter (cnd Q ∘ fun (i : Nat) => D.int (2 + (i : Nat))) = (List.range (most - 1)).filter ((fun p => prB p && decide (Q % (p : Int) ≠ 0)) ∘ fun x => x + 2) := by
    refine List.filter_congr fun i _ => ?_
    show (prB ((2 : Int) + (i : Nat)).toNat && decide (Q % ((2 : Int) + (i : Nat)) ≠ 0)) = (prB (i + 2) && decide (Q % (((i + 2 : Nat) : Int)) ≠ 0))
    rw [show ((2 : Int) + (i : Nat)) = ((i + 2 : Nat) : Int) by omega, Int.toNat_natCast]
  rw [e1]
  refine List.map_congr_left fun i _ => ?_
  show D.int (2 + (i : Nat)) = D.int (((i + 2 : Nat) : Int))
  rw [show ((2 : Int) + (i : Nat)) = ((i + 2 : Nat) : Int) by omega]
theorem pu_listed : ∀ ds R, ct_listed ds R → t_listed (endsOf R) (startC N_listed (ds.map .sh)) := by
  rintro ds R ⟨P, Q, most, hb, h1, h2, rfl, hR⟩
  change t_listed _ [.sh (.tup [.int P, .int Q]), .sh (.int most), .un]
  dsimp only [t_listed, sSeq, sNil, sRet, sRetN, sExpr, sIf, sSet, sSetL, sAsg, sPar, sParL, sPar3, sAug, sBreak, sCont, sNo, sApp, sExt, sSetD, fIn, fRev, fDi, sPut, sSetK, fVar, fNm, fC, fOp, fUn, fCa, fCaL, fBo, fCh, fAnd, fOr, fNot, fAndV, fOrV, fNotV, fIf, fNil, fCons, fTup, fLst, fL, gI, gI0, gAdd, PD.gSub, gMul, gDiv, gMod, gPow, gNeg, gLt, gLe, gGt, gGe, gEq, gNe, eqS, gIsN, gNotN, gIn, gNotIn, D.seq, gIx, gIxC, fIxO, fIxOC, fLenO, olAt, Cell.ols, Cell.upd, putL, gSetOC, gAbs, gInt, gLen, gTuple, gList, gMax, gMin, gInts, gBls, iLst, PD.iTup, iRg1, iRg2, gNm, gsNil, gsCons, gTu, fCall, fCallM, fCallL, fCat, gCat, gCatT, fSl, fSlT, oNone, oSome, fGet, fGet2, dicAt, dKey, fSortIt, fYes, endsOf, endsM, wipeC, restoreC, keepC, List.getElem?_cons_zero, List.getElem?_cons_succ, List.set_cons_zero, List.set_cons_succ, List.length_cons, List.length_nil, List.getElem?_nil, Nat.beq, Nat.ble, Nat.blt, Nat.reduceAdd, Nat.reduceLeDiff, Nat.reduceLT, Nat.zero_add, Nat.reduceSucc, Nat.beq_eq]
  refine fLc_i ⟨RgOk.of (by decide) (by decide), RgOk.of (by omega) (by omega), ?_⟩
  refine lc_run (items := rgD 2 ((most : Int) + 1 - 2).toNat) (cnd Q) (fun d => d) (by rw [rgD_len]; omega) (fun d hd P1 P0 k1 k0 => ?_) ?_
  · obtain ⟨i, hi⟩ := List.mem_iff_getElem?.mp hd
    obtain ⟨hi, rfl⟩ := rg_get hi
    try dsimp only [sSeq, sNil, sRet, sRetN, sExpr, sIf, sSet, sSetL, sAsg, sPar, sParL, sPar3, sAug, sBreak, sCont, sNo, sApp, sExt, sSetD, fIn, fRev, fDi, sPut, sSetK, fVar, fNm, fC, fOp, fUn, fCa, fCaL, fBo, fCh, fAnd, fOr, fNot, fAndV, fOrV, fNotV, fIf, fNil, fCons, fTup, fLst, fL, gI, gI0, gAdd, PD.gSub, gMul, gDiv, gMod, gPow, gNeg, gLt, gLe, gGt, gGe, gEq, gNe, eqS, gIsN, gNotN, gIn, gNotIn, D.seq, gIx, gIxC, fIxO, fIxOC, fLenO, olAt, Cell.ols, Cell.upd, putL, gSetOC, gAbs, gInt, gLen, gTuple, gList, gMax, gMin, gInts, gBls, iLst, PD.iTup, iRg1, iRg2, gNm, gsNil, gsCons, gTu, fCall, fCallM, fCallL, fCat, gCat, gCatT, fSl, fSlT, oNone, oSome, fGet, fGet2, dicAt, dKey, fSortIt, fYes, endsOf, endsM, wipeC, restoreC, keepC, List.getElem?_cons_zero, List.getElem?_cons_succ, List.set_cons_zero, List.set_cons_succ, List.length_cons, List.length_nil, List.getElem?_nil, Nat.beq, Nat.ble, Nat.blt, Nat.reduceAdd, Nat.reduceLeDiff, Nat.reduceLT, Nat.zero_add, Nat.reduceSucc, Nat.beq_eq]
    have ei : (2 : Int) + (i : Nat) = ((i + 2 : Nat) : Int) := by omega
    have ec : cnd Q (.int (2 + (i : Nat))) = (prB (i + 2) && decide (Q % ((2 : Int) + (i : Nat)) ≠ 0)) := by
      show (prB ((2 : Int) + (i : Nat)).toNat && _) = _
      rw [show ((2 : Int) + (i : Nat)).toNat = i + 2 by omega]
    refine ⟨i + 2, by rw [ei], by omega, by omega, ?_⟩
    cases hpr : prB (i + 2) with
    | false =>
      rw [hpr, Bool.false_and] at ec
      exact ifF (k0 ec _ rfl)
    | true =>
      rw [hpr, Bool.true_and] at ec
      refine ifT ⟨by omega, ?_⟩
      by_cases z : Q % ((2 : Int) + (i : Nat)) = 0
      · rw [decide_eq_false (fun w => w z)] at ec
        rw [decide_eq_true z]
        exact k0 ec _ rfl
      · rw [decide_eq_true z] at ec
        rw [decide_eq_false z]
        exact k1 ec _ rfl
  · rw [rg_lst Q most h1]
    exact hR
theorem ln_ranks_to : ∀ ds R, ct_ranks_to ds R → ds.length = 2 := by
  rintro ds R ⟨P, Q, most, _, _, _, rfl, _⟩; rfl
def natD : D → Nat
  | .int p => p.toNat
  | _ => 0
theorem mapD {α : Type} (l : List Nat) (f : Nat → α) (g : D → α) (h : ∀ p : Nat, g (.int (p : Int)) = f p) : (l.map fun (p : Nat) => D.int (p : Int)).map g = l.map f := by
  rw [List.map_map]
  exact List.map_congr_left fun p _ => h p
theorem filD (l : List Nat) (f : Nat → Bool) (g : D → Bool) (h : ∀ p : Nat, g (.int (p : Int)) = f p) : (l.map fun (p : Nat) => D.int (p : Int)).filter g = (l.filter f).map fun (p : Nat) => D.int (p : Int) := by
  rw [List.filter_map]
  congr 1
  exact List.filter_congr fun p _ => h p
theorem pu_ranks_to : ∀ ds R, ct_ranks_to ds R → t_ranks_to (endsOf R) (startC N_ranks_to (ds.map .sh)) := by
  rintro ds R ⟨P, Q, most, hb, h1, h2, rfl, hR⟩
  change t_ranks_to _ [.sh (.tup [.int P, .int Q]), .sh (.int most), .un]
  have hlen := lst_len Q most
  dsimp only [t_ranks_to, sSeq, sNil, sRet, sRetN, sExpr, sIf, sSet, sSetL, sAsg, sPar, sParL, sPar3, sAug, sBreak, sCont, sNo, sApp, sExt, sSetD, fIn, fRev, fDi, sPut, sSetK, fVar, fNm, fC, fOp, fUn, fCa, fCaL, fBo, fCh, fAnd, fOr, fNot, fAndV, fOrV, fNotV, fIf, fNil, fCons, fTup, fLst, fL, gI, gI0, gAdd, PD.gSub, gMul, gDiv, gMod, gPow, gNeg, gLt, gLe, gGt, gGe, gEq, gNe, eqS, gIsN, gNotN, gIn, gNotIn, D.seq, gIx, gIxC, fIxO, fIxOC, fLenO, olAt, Cell.ols, Cell.upd, putL, gSetOC, gAbs, gInt, gLen, gTuple, gList, gMax, gMin, gInts, gBls, iLst, PD.iTup, iRg1, iRg2, gNm, gsNil, gsCons, gTu, fCall, fCallM, fCallL, fCat, gCat, gCatT, fSl, fSlT, oNone, oSome, fGet, fGet2, dicAt, dKey, fSortIt, fYes, endsOf, endsM, wipeC, restoreC, keepC, List.getElem?_cons_zero, List.getElem?_cons_succ, List.set_cons_zero, List.set_cons_succ, List.length_cons, List.length_nil, List.getElem?_nil, Nat.beq, Nat.ble, Nat.blt, Nat.reduceAdd, Nat.reduceLeDiff, Nat.reduceLT, Nat.zero_add, Nat.reduceSucc, Nat.beq_eq]
  refine ⟨P, Q, most, hb, h1, h2, rfl, ?_⟩
  refine fLc_i ⟨P, Q, most, hb, h1, h2, rfl, ?_⟩
  refine lc_run (items := (lst Q most).map fun (p : Nat) => .int (p : Int)) (fun _ => true) (fun d => .tup [d, .int (rkN P Q (natD d) : Nat)]) (by rw [List.length_map]; omega) (fun d hd P1 P0 k1 k0 => ?_) ?_
  · obtain ⟨p, hp, rfl⟩ := List.mem_map.mp hd
    try dsimp only [sSeq, sNil, sRet, sRetN, sExpr, sIf, sSet, sSetL, sAsg, sPar, sParL, sPar3, sAug, sBreak, sCont, sNo, sApp, sExt, sSetD, fIn, fRev, fDi, sPut, sSetK, fVar, fNm, fC, fOp, fUn, fCa, fCaL, fBo, fCh, fAnd, fOr, fNot, fAndV, fOrV, fNotV, fIf, fNil, fCons, fTup, fLst, fL, gI, gI0, gAdd, PD.gSub, gMul, gDiv, gMod, gPow, gNeg, gLt, gLe, gGt, gGe, gEq, gNe, eqS, gIsN, gNotN, gIn, gNotIn, D.seq, gIx, gIxC, fIxO, fIxOC, fLenO, olAt, Cell.ols, Cell.upd, putL, gSetOC, gAbs, gInt, gLen, gTuple, gList, gMax, gMin, gInts, gBls, iLst, PD.iTup, iRg1, iRg2, gNm, gsNil, gsCons, gTu, fCall, fCallM, fCallL, fCat, gCat, gCatT, fSl, fSlT, oNone, oSome, fGet, fGet2, dicAt, dKey, fSortIt, fYes, endsOf, endsM, wipeC, restoreC, keepC, List.getElem?_cons_zero, List.getElem?_cons_succ, List.set_cons_zero, List.set_cons_succ, List.length_cons, List.length_nil, List.getElem?_nil, Nat.beq, Nat.ble, Nat.blt, Nat.reduceAdd, Nat.reduceLeDiff, Nat.reduceLT, Nat.zero_add, Nat.reduceSucc, Nat.beq_eq]
    rw [if_pos rfl]
    exact ⟨P, Q, p, hb, (lst_ok (P := P) h2 hp).1, rfl, k1 rfl _ rfl⟩
  · rw [List.filter_eq_self.mpr fun _ _ => rfl, mapD _ (fun p => D.tup [.int (p : Int), .int (rkN P Q p : Nat)]) _ fun p => rfl]
    exact hR
theorem ln_full_primes : ∀ ds R, ct_full_primes ds R → ds.length = 2 := by
  rintro ds R ⟨P, Q, most, _, _, _, rfl, _⟩; rfl
theorem pu_full_primes : ∀ ds R, ct_full_primes ds R → t_full_primes (endsOf R) (startC N_full_primes (ds.map .sh)) := by
  rintro ds R ⟨P, Q, most, hb, h1, h2, rfl, hR⟩
  change t_full_primes _ [.sh (.tup [.int P, .int Q]), .sh (.int most), .un]
  have hlen := lst_len Q most
  dsimp only [t_full_primes, sSeq, sNil, sRet, sRetN, sExpr, sIf, sSet, sSetL, sAsg, sPar, sParL, sPar3, sAug, sBreak, sCont, sNo, sApp, sExt, sSetD, fIn, fRev, fDi, sPut, sSetK, fVar, fNm, fC, fOp, fUn, fCa, fCaL, fBo, fCh, fAnd, fOr, fNot, fAndV, fOrV, fNotV, fIf, fNil, fCons, fTup, fLst, fL, gI, gI0, gAdd, PD.gSub, gMul, gDiv, gMod, gPow, gNeg, gLt, gLe, gGt, gGe, gEq, gNe, eqS, gIsN, gNotN, gIn, gNotIn, D.seq, gIx, gIxC, fIxO, fIxOC, fLenO, olAt, Cell.ols, Cell.upd, putL, gSetOC, gAbs, gInt, gLen, gTuple, gList, gMax, gMin, gInts, gBls, iLst, PD.iTup, iRg1, iRg2, gNm, gsNil, gsCons, gTu, fCall, fCallM, fCallL, fCat, gCat, gCatT, fSl, fSlT, oNone, oSome, fGet, fGet2, dicAt, dKey, fSortIt, fYes, endsOf, endsM, wipeC, restoreC, keepC, List.getElem?_cons_zero, List.getElem?_cons_succ, List.set_cons_zero, List.set_cons_succ, List.length_cons, List.length_nil, List.getElem?_nil, Nat.beq, Nat.ble, Nat.blt, Nat.reduceAdd, Nat.reduceLeDiff, Nat.reduceLT, Nat.zero_add, Nat.reduceSucc, Nat.beq_eq]
  refine ⟨P, Q, most, hb, h1, h2, rfl, ?_⟩
  refine fLc_i ⟨P, Q, most, hb, h1, h2, rfl, ?_⟩
  refine lc_run (items := (lst Q most).map fun (p : Nat) => .int (p : Int)) (fun d => decide (rkN P Q (natD d) = natD d + 1)) (fun d => d) (by rw [List.length_map]; omega) (fun d hd P1 P0 k1 k0 => ?_) ?_
  · obtain ⟨p, hp, rfl⟩ := List.mem_map.mp hd
    try dsimp only [sSeq, sNil, sRet, sRetN, sExpr, sIf, sSet, sSetL, sAsg, sPar, sParL, sPar3, sAug, sBreak, sCont, sNo, sApp, sExt, sSetD, fIn, fRev, fDi, sPut, sSetK, fVar, fNm, fC, fOp, fUn, fCa, fCaL, fBo, fCh, fAnd, fOr, fNot, fAndV, fOrV, fNotV, fIf, fNil, fCons, fTup, fLst, fL, gI, gI0, gAdd, PD.gSub, gMul, gDiv, gMod, gPow, gNeg, gLt, gLe, gGt, gGe, gEq, gNe, eqS, gIsN, gNotN, gIn, gNotIn, D.seq, gIx, gIxC, fIxO, fIxOC, fLenO, olAt, Cell.ols, Cell.upd, putL, gSetOC, gAbs, gInt, gLen, gTuple, gList, gMax, gMin, gInts, gBls, iLst, PD.iTup, iRg1, iRg2, gNm, gsNil, gsCons, gTu, fCall, fCallM, fCallL, fCat, gCat, gCatT, fSl, fSlT, oNone, oSome, fGet, fGet2, dicAt, dKey, fSortIt, fYes, endsOf, endsM, wipeC, restoreC, keepC, List.getElem?_cons_zero, List.getElem?_cons_succ, List.set_cons_zero, List.set_cons_succ, List.length_cons, List.length_nil, List.getElem?_nil, Nat.beq, Nat.ble, Nat.blt, Nat.reduceAdd, Nat.reduceLeDiff, Nat.reduceLT, Nat.zero_add, Nat.reduceSucc, Nat.beq_eq]
    refine ⟨P, Q, p, hb, (lst_ok (P := P) h2 hp).1, rfl, ?_⟩
    refine ifb (fun e => ?_) (fun e => ?_)
    · have e : ((rkN P Q p : Nat) : Int) = (p : Int) + 1 := e
      exact k1 (decide_eq_true (show rkN P Q p = p + 1 by omega)) _ rfl
    · have e : ¬ ((rkN P Q p : Nat) : Int) = (p : Int) + 1 := e
      exact k0 (decide_eq_false (show ¬ rkN P Q p = p + 1 by omega)) _ rfl
  · rw [List.map_id', filD _ (fun p => decide (rkN P Q p = p + 1)) _ fun p => rfl]
    exact hR
theorem ln_double_primes : ∀ ds R, ct_double_primes ds R → ds.length = 2 := by
  rintro ds R ⟨P, Q, most, _, _, _, rfl, _⟩; rfl
theorem pu_double_primes : ∀ ds R, ct_double_primes ds R → t_double_primes (endsOf R) (startC N_double_primes (ds.map .sh)) := by
  rintro ds R ⟨P, Q, most, hb, h1, h2, rfl, hR⟩
  change t_double_primes _ [.sh (.tup [.int P, .int Q]), .sh (.int most), .un]
  have hlen := lst_len Q most
  dsimp only [t_double_primes, sSeq, sNil, sRet, sRetN, sExpr, sIf, sSet, sSetL, sAsg, sPar, sParL, sPar3, sAug, sBreak, sCont, sNo, sApp, sExt, sSetD, fIn, fRev, fDi, sPut, sSetK, fVar, fNm, fC, fOp, fUn, fCa, fCaL, fBo, fCh, fAnd, fOr, fNot, fAndV, fOrV, fNotV, fIf, fNil, fCons, fTup, fLst, fL, gI, gI0, gAdd, PD.gSub, gMul, gDiv, gMod, gPow, gNeg, gLt, gLe, gGt, gGe, gEq, gNe, eqS, gIsN, gNotN, gIn, gNotIn, D.seq, gIx, gIxC, fIxO, fIxOC, fLenO, olAt, Cell.ols, Cell.upd, putL, gSetOC, gAbs, gInt, gLen, gTuple, gList, gMax, gMin, gInts, gBls, iLst, PD.iTup, iRg1, iRg2, gNm, gsNil, gsCons, gTu, fCall, fCallM, fCallL, fCat, gCat, gCatT, fSl, fSlT, oNone, oSome, fGet, fGet2, dicAt, dKey, fSortIt, fYes, endsOf, endsM, wipeC, restoreC, keepC, List.getElem?_cons_zero, List.getElem?_cons_succ, List.set_cons_zero, List.set_cons_succ, List.length_cons, List.length_nil, List.getElem?_nil, Nat.beq, Nat.ble, Nat.blt, Nat.reduceAdd, Nat.reduceLeDiff, Nat.reduceLT, Nat.zero_add, Nat.reduceSucc, Nat.beq_eq]
  refine ⟨P, Q, most, hb, h1, h2, rfl, ?_⟩
  refine fLc_i ⟨P, Q, most, hb, h1, h2, rfl, ?_⟩
  refine lc_run (items := (lst Q most).map fun (p : Nat) => .int (p : Int)) (fun d => twice P Q (natD d)) (fun d => d) (by rw [List.length_map]; omega) (fun d hd P1 P0 k1 k0 => ?_) ?_
  · obtain ⟨p, hp, rfl⟩ := List.mem_map.mp hd
    have ok := (lst_ok (P := P) h2 hp).1
    obtain ⟨r1, _, _, _⟩ := rk_spec (P := P) ok
    try dsimp only [sSeq, sNil, sRet, sRetN, sExpr, sIf, sSet, sSetL, sAsg, sPar, sParL, sPar3, sAug, sBreak, sCont, sNo, sApp, sExt, sSetD, fIn, fRev, fDi, sPut, sSetK, fVar, fNm, fC, fOp, fUn, fCa, fCaL, fBo, fCh, fAnd, fOr, fNot, fAndV, fOrV, fNotV, fIf, fNil, fCons, fTup, fLst, fL, gI, gI0, gAdd, PD.gSub, gMul, gDiv, gMod, gPow, gNeg, gLt, gLe, gGt, gGe, gEq, gNe, eqS, gIsN, gNotN, gIn, gNotIn, D.seq, gIx, gIxC, fIxO, fIxOC, fLenO, olAt, Cell.ols, Cell.upd, putL, gSetOC, gAbs, gInt, gLen, gTuple, gList, gMax, gMin, gInts, gBls, iLst, PD.iTup, iRg1, iRg2, gNm, gsNil, gsCons, gTu, fCall, fCallM, fCallL, fCat, gCat, gCatT, fSl, fSlT, oNone, oSome, fGet, fGet2, dicAt, dKey, fSortIt, fYes, endsOf, endsM, wipeC, restoreC, keepC, List.getElem?_cons_zero, List.getElem?_cons_succ, List.set_cons_zero, List.set_cons_succ, List.length_cons, List.length_nil, List.getElem?_nil, Nat.beq, Nat.ble, Nat.blt, Nat.reduceAdd, Nat.reduceLeDiff, Nat.reduceLT, Nat.zero_add, Nat.reduceSucc, Nat.beq_eq]
    refine ⟨P, Q, p, hb, ok, rfl, ?_⟩
    try dsimp only [sSeq, sNil, sRet, sRetN, sExpr, sIf, sSet, sSetL, sAsg, sPar, sParL, sPar3, sAug, sBreak, sCont, sNo, sApp, sExt, sSetD, fIn, fRev, fDi, sPut, sSetK, fVar, fNm, fC, fOp, fUn, fCa, fCaL, fBo, fCh, fAnd, fOr, fNot, fAndV, fOrV, fNotV, fIf, fNil, fCons, fTup, fLst, fL, gI, gI0, gAdd, PD.gSub, gMul, gDiv, gMod, gPow, gNeg, gLt, gLe, gGt, gGe, gEq, gNe, eqS, gIsN, gNotN, gIn, gNotIn, D.seq, gIx, gIxC, fIxO, fIxOC, fLenO, olAt, Cell.ols, Cell.upd, putL, gSetOC, gAbs, gInt, gLen, gTuple, gList, gMax, gMin, gInts, gBls, iLst, PD.iTup, iRg1, iRg2, gNm, gsNil, gsCons, gTu, fCall, fCallM, fCallL, fCat, gCat, gCatT, fSl, fSlT, oNone, oSome, fGet, fGet2, dicAt, dKey, fSortIt, fYes, endsOf, endsM, wipeC, restoreC, keepC, List.getElem?_cons_zero, List.getElem?_cons_succ, List.set_cons_zero, List.set_cons_succ, List.length_cons, List.length_nil, List.getElem?_nil, Nat.beq, Nat.ble, Nat.blt, Nat.reduceAdd, Nat.reduceLeDiff, Nat.reduceLT, Nat.zero_add, Nat.reduceSucc, Nat.beq_eq]
    refine ⟨P, Q, p, hb, ok, rfl, ?_⟩
    have et : twice P Q (natD (.int (p : Int))) = twice P Q p := rfl
    cases ht : twice P Q p with
    | true =>
      rw [if_pos rfl]
      try dsimp only [sSeq, sNil, sRet, sRetN, sExpr, sIf, sSet, sSetL, sAsg, sPar, sParL, sPar3, sAug, sBreak, sCont, sNo, sApp, sExt, sSetD, fIn, fRev, fDi, sPut, sSetK, fVar, fNm, fC, fOp, fUn, fCa, fCaL, fBo, fCh, fAnd, fOr, fNot, fAndV, fOrV, fNotV, fIf, fNil, fCons, fTup, fLst, fL, gI, gI0, gAdd, PD.gSub, gMul, gDiv, gMod, gPow, gNeg, gLt, gLe, gGt, gGe, gEq, gNe, eqS, gIsN, gNotN, gIn, gNotIn, D.seq, gIx, gIxC, fIxO, fIxOC, fLenO, olAt, Cell.ols, Cell.upd, putL, gSetOC, gAbs, gInt, gLen, gTuple, gList, gMax, gMin, gInts, gBls, iLst, PD.iTup, iRg1, iRg2, gNm, gsNil, gsCons, gTu, fCall, fCallM, fCallL, fCat, gCat, gCatT, fSl, fSlT, oNone, oSome, fGet, fGet2, dicAt, dKey, fSortIt, fYes, endsOf, endsM, wipeC, restoreC, keepC, List.getElem?_cons_zero, List.getElem?_cons_succ, List.set_cons_zero, List.set_cons_succ, List.length_cons, List.length_nil, List.getElem?_nil, Nat.beq, Nat.ble, Nat.blt, Nat.reduceAdd, Nat.reduceLeDiff, Nat.reduceLT, Nat.zero_add, Nat.reduceSucc, Nat.beq_eq]
      rw [decide_eq_true rfl]
      exact k1 (et.trans ht) _ rfl
    | false =>
      rw [if_neg Bool.false_ne_true]
      have ne : ¬ ((rkN P Q p : Nat) : Int) * (p : Int) = ((rkN P Q p : Nat) : Int) := fun z => by
        rw [← Int.natCast_mul] at z
        have z : rkN P Q p * p = rkN P Q p := by omega
        have := Nat.mul_le_mul_left (rkN P Q p) ok.pr'.two
        omega
      try dsimp only [sSeq, sNil, sRet, sRetN, sExpr, sIf, sSet, sSetL, sAsg, sPar, sParL, sPar3, sAug, sBreak, sCont, sNo, sApp, sExt, sSetD, fIn, fRev, fDi, sPut, sSetK, fVar, fNm, fC, fOp, fUn, fCa, fCaL, fBo, fCh, fAnd, fOr, fNot, fAndV, fOrV, fNotV, fIf, fNil, fCons, fTup, fLst, fL, gI, gI0, gAdd, PD.gSub, gMul, gDiv, gMod, gPow, gNeg, gLt, gLe, gGt, gGe, gEq, gNe, eqS, gIsN, gNotN, gIn, gNotIn, D.seq, gIx, gIxC, fIxO, fIxOC, fLenO, olAt, Cell.ols, Cell.upd, putL, gSetOC, gAbs, gInt, gLen, gTuple, gList, gMax, gMin, gInts, gBls, iLst, PD.iTup, iRg1, iRg2, gNm, gsNil, gsCons, gTu, fCall, fCallM, fCallL, fCat, gCat, gCatT, fSl, fSlT, oNone, oSome, fGet, fGet2, dicAt, dKey, fSortIt, fYes, endsOf, endsM, wipeC, restoreC, keepC, List.getElem?_cons_zero, List.getElem?_cons_succ, List.set_cons_zero, List.set_cons_succ, List.length_cons, List.length_nil, List.getElem?_nil, Nat.beq, Nat.ble, Nat.blt, Nat.reduceAdd, Nat.reduceLeDiff, Nat.reduceLT, Nat.zero_add, Nat.reduceSucc, Nat.beq_eq]
      rw [decide_eq_false ne]
      exact k0 (et.trans ht) _ rfl
  · rw [List.map_id', filD _ (fun p => twice P Q p) _ fun p => rfl]
    exact hR
def keyE (k : Int) : Key × D := (Sum.inl k, .bl true)
theorem any_keyE (k : Int) (ks : List Int) : ((ks.map keyE).any fun kv => decide (kv.1 = Sum.inl k)) = decide (k ∈ ks) := by
  induction ks with
  | nil => rfl
  | cons q ks ih =>
    rw [List.map_cons, List.any_cons, ih]
    by_cases e : q = k
    · simp [keyE, e]
    · have e2 : ¬ k = q := fun z => e z.symm
      simp [keyE, e, e2]
theorem put_true (ks : List Int) (k : Int) : putD (ks.map keyE) (Sum.inl k) (.bl true) = (if k ∈ ks then ks else ks ++ [k]).map keyE := by
  unfold putD
  rw [any_keyE]
  by_cases e : k ∈ ks
  · rw [if_pos (decide_eq_true e), if_pos e, List.map_map]
    refine List.map_congr_left fun q _ => ?_
    by_cases h : (keyE q).1 = Sum.inl k
    · exact if_pos h
    · exact if_neg h
  · rw [if_neg (by rw [decide_eq_false e]; exact Bool.false_ne_true), if_neg e, List.map_append]
    rfl
theorem ln_first_without : ∀ ds R, ct_first_without ds R → ds.length = 2 := by
  rintro ds R ⟨P, Q, most, _, _, _, rfl, _⟩; rfl
theorem val_key (k : Int) (ks : List Int) : (valD (ks.map keyE) (Sum.inl k)).isSome = decide (k ∈ ks) := by
  unfold valD
  rw [Option.isSome_map]
  by_cases h : k ∈ ks
  · rw [decide_eq_true h]
    exact List.find?_isSome.mpr ⟨keyE k, List.mem_map.mpr ⟨k, h, rfl⟩, decide_eq_true rfl⟩
  · rw [decide_eq_false h]
    refine Bool.eq_false_iff.mpr fun z => ?_
    obtain ⟨x, hx, e⟩ := List.find?_isSome.mp z
    obtain ⟨q, hq, rfl⟩ := List.mem_map.mp hx
    have e : (Sum.inl q : Key) = Sum.inl k := of_decide_eq_true e
    cases e
    exact h hq
theorem fw_bound {P Q : Int} {most f : Nat} (h : ∀ k, 2 ≤ k → k < f → k ∈ (lst Q most).map (rkN P Q)) : f ≤ (lst Q most).length + 2 := by
  refine Nat.le_of_not_lt fun hf => ?_
  have nd : ((List.range ((lst Q most).length + 1)).map (· + 2)).Nodup := by
    rw [List.nodup_iff_pairwise_ne, List.pairwise_map]
    exact (List.pairwise_lt_range (n := (lst Q most).length + 1)).imp fun {a b} h => by omega
  have sub : ∀ x ∈ (List.range ((lst Q most).length + 1)).map (· + 2), x ∈ (lst Q most).map (rkN P Q) := fun x hx => by
    obtain ⟨i, hi, rfl⟩ := List.mem_map.mp hx
    have := List.mem_range.mp hi
    exact h (i + 2) (by omega) (by omega)
  have := List.Nodup.length_le_of_subset nd sub
  rw [List.length_map, List.length_range, List.length_map] at this
  omega
theorem pu_first_without : ∀ ds R, ct_first_without ds R → t_first_without (endsOf R) (startC N_first_without (ds.map .sh)) := by
  rintro ds R ⟨P, Q, most, hb, h1, h2, rfl, hR⟩
  change t_first_without _ [.sh (.tup [.int P, .int Q]), .sh (.int most), .un, .un, .un]
  have hlen := lst_len Q most
  dsimp only [t_first_without, sSeq, sNil, sRet, sRetN, sExpr, sIf, sSet, sSetL, sAsg, sPar, sParL, sPar3, sAug, sBreak, sCont, sNo, sApp, sExt, sSetD, fIn, fRev, fDi, sPut, sSetK, fVar, fNm, fC, fOp, fUn, fCa, fCaL, fBo, fCh, fAnd, fOr, fNot, fAndV, fOrV, fNotV, fIf, fNil, fCons, fTup, fLst, fL, gI, gI0, gAdd, PD.gSub, gMul, gDiv, gMod, gPow, gNeg, gLt, gLe, gGt, gGe, gEq, gNe, eqS, gIsN, gNotN, gIn, gNotIn, D.seq, gIx, gIxC, fIxO, fIxOC, fLenO, olAt, Cell.ols, Cell.upd, putL, gSetOC, gAbs, gInt, gLen, gTuple, gList, gMax, gMin, gInts, gBls, iLst, PD.iTup, iRg1, iRg2, gNm, gsNil, gsCons, gTu, fCall, fCallM, fCallL, fCat, gCat, gCatT, fSl, fSlT, oNone, oSome, fGet, fGet2, dicAt, dKey, fSortIt, fYes, endsOf, endsM, wipeC, restoreC, keepC, List.getElem?_cons_zero, List.getElem?_cons_succ, List.set_cons_zero, List.set_cons_succ, List.length_cons, List.length_nil, List.getElem?_nil, Nat.beq, Nat.ble, Nat.blt, Nat.reduceAdd, Nat.reduceLeDiff, Nat.reduceLT, Nat.zero_add, Nat.reduceSucc, Nat.beq_eq]
  refine ⟨P, Q, most, hb, h1, h2, rfl, ?_⟩
  refine fDc_i ⟨P, Q, most, hb, h1, h2, rfl, ?_⟩
  refine ⟨by rw [List.length_map]; omega, fun i acc ρ => ρ = [.sh (.tup [.int P, .int Q]), .sh (.int most), .un, .un, .un] ∧ ∃ ks : List Int, acc = ks.map keyE ∧ ∀ k : Int, k ∈ ks ↔ ∃ p ∈ (lst Q most).take i, ((rkN P Q p : Nat) : Int) = k, ⟨rfl, [], rfl, fun k => by simp⟩, ?_, ?_⟩
  · rintro i d acc ρ hd ⟨rfl, ks, rfl, hk⟩
    obtain ⟨p, hp, rfl⟩ : ∃ p : Nat, (lst Q most)[i]? = some p ∧ d = .int (p : Int) := by
      rw [List.getElem?_map] at hd
      cases e : (lst Q most)[i]? with
      | none => rw [e] at hd; cases hd
      | some b => rw [e] at hd; exact ⟨b, rfl, (Option.some.inj hd).symm⟩
    obtain ⟨hlt, ed⟩ := List.getElem?_eq_some_iff.mp hp
    try dsimp only [sSeq, sNil, sRet, sRetN, sExpr, sIf, sSet, sSetL, sAsg, sPar, sParL, sPar3, sAug, sBreak, sCont, sNo, sApp, sExt, sSetD, fIn, fRev, fDi, sPut, sSetK, fVar, fNm, fC, fOp, fUn, fCa, fCaL, fBo, fCh, fAnd, fOr, fNot, fAndV, fOrV, fNotV, fIf, fNil, fCons, fTup, fLst, fL, gI, gI0, gAdd, PD.gSub, gMul, gDiv, gMod, gPow, gNeg, gLt, gLe, gGt, gGe, gEq, gNe, eqS, gIsN, gNotN, gIn, gNotIn, D.seq, gIx, gIxC, fIxO, fIxOC, fLenO, olAt, Cell.ols, Cell.upd, putL, gSetOC, gAbs, gInt, gLen, gTuple, gList, gMax, gMin, gInts, gBls, iLst, PD.iTup, iRg1, iRg2, gNm, gsNil, gsCons, gTu, fCall, fCallM, fCallL, fCat, gCat, gCatT, fSl, fSlT, oNone, oSome, fGet, fGet2, dicAt, dKey, fSortIt, fYes, endsOf, endsM, wipeC, restoreC, keepC, List.getElem?_cons_zero, List.getElem?_cons_succ, List.set_cons_zero, List.set_cons_succ, List.length_cons, List.length_nil, List.getElem?_nil, Nat.beq, Nat.ble, Nat.blt, Nat.reduceAdd, Nat.reduceLeDiff, Nat.reduceLT, Nat.zero_add, Nat.reduceSucc, Nat.beq_eq]
    rw [if_pos rfl]
    refine ⟨P, Q, p, hb, (lst_ok (P := P) h2 (List.mem_of_getElem? hp)).1, rfl, Sum.inl ((rkN P Q p : Nat) : Int), rfl, rfl, _, put_true _ _, fun k => ?_⟩
    rw [List.take_succ_eq_append_getElem hlt, ed]
    have key : (∃ q ∈ (lst Q most).take i ++ [p], ((rkN P Q q : Nat) : Int) = k) ↔ (∃ q ∈ (lst Q most).take i, ((rkN P Q q : Nat) : Int) = k) ∨ ((rkN P Q p : Nat) : Int) = k := by
      constructor
      · rintro ⟨q, hq, e⟩
        rcases List.mem_append.mp hq with h | h
        · exact .inl ⟨q, h, e⟩
        · exact .inr (List.mem_singleton.mp h ▸ e)
      · rintro (⟨q, hq, e⟩ | e)
        · exact ⟨q, List.mem_append_left _ hq, e⟩
        · exact ⟨p, List.mem_append_right _ (List.mem_singleton.mpr rfl), e⟩
    rw [key, ← hk]
    split
    · rename_i h
      exact ⟨.inl, fun z => z.elim id fun z => z ▸ h⟩
    · rw [List.mem_append, List.mem_singleton]
      exact or_congr Iff.rfl ⟨fun z => z.symm, fun z => z.symm⟩
  · rintro acc ρ ⟨rfl, ks, rfl, hk⟩
    rw [List.length_map, List.take_length] at hk
    try dsimp only [sSeq, sNil, sRet, sRetN, sExpr, sIf, sSet, sSetL, sAsg, sPar, sParL, sPar3, sAug, sBreak, sCont, sNo, sApp, sExt, sSetD, fIn, fRev, fDi, sPut, sSetK, fVar, fNm, fC, fOp, fUn, fCa, fCaL, fBo, fCh, fAnd, fOr, fNot, fAndV, fOrV, fNotV, fIf, fNil, fCons, fTup, fLst, fL, gI, gI0, gAdd, PD.gSub, gMul, gDiv, gMod, gPow, gNeg, gLt, gLe, gGt, gGe, gEq, gNe, eqS, gIsN, gNotN, gIn, gNotIn, D.seq, gIx, gIxC, fIxO, fIxOC, fLenO, olAt, Cell.ols, Cell.upd, putL, gSetOC, gAbs, gInt, gLen, gTuple, gList, gMax, gMin, gInts, gBls, iLst, PD.iTup, iRg1, iRg2, gNm, gsNil, gsCons, gTu, fCall, fCallM, fCallL, fCat, gCat, gCatT, fSl, fSlT, oNone, oSome, fGet, fGet2, dicAt, dKey, fSortIt, fYes, endsOf, endsM, wipeC, restoreC, keepC, List.getElem?_cons_zero, List.getElem?_cons_succ, List.set_cons_zero, List.set_cons_succ, List.length_cons, List.length_nil, List.getElem?_nil, Nat.beq, Nat.ble, Nat.blt, Nat.reduceAdd, Nat.reduceLeDiff, Nat.reduceLT, Nat.zero_add, Nat.reduceSucc, Nat.beq_eq]
    have mem : ∀ f : Nat, ((f : Int) ∈ ks) ↔ f ∈ (lst Q most).map (rkN P Q) := fun f => by
      rw [hk, List.mem_map]
      exact ⟨fun ⟨p, hp, e⟩ => ⟨p, hp, by omega⟩, fun ⟨p, hp, e⟩ => ⟨p, hp, by omega⟩⟩
    refine ⟨fun m ρ => ∃ f : Nat, ρ = [.sh (.tup [.int P, .int Q]), .sh (.int most), .ok (ks.map keyE), .sh (.int (f : Int)), .un] ∧ 2 ≤ f ∧ (∀ k, 2 ≤ k → k < f → k ∈ (lst Q most).map (rkN P Q)) ∧ m = (lst Q most).length + 3 - f, ⟨_, 2, rfl, Nat.le_refl _, fun k a b => by omega, rfl⟩, ?_⟩
    rintro m ρ ⟨f, rfl, f2, f3, rfl⟩
    try dsimp only [sSeq, sNil, sRet, sRetN, sExpr, sIf, sSet, sSetL, sAsg, sPar, sParL, sPar3, sAug, sBreak, sCont, sNo, sApp, sExt, sSetD, fIn, fRev, fDi, sPut, sSetK, fVar, fNm, fC, fOp, fUn, fCa, fCaL, fBo, fCh, fAnd, fOr, fNot, fAndV, fOrV, fNotV, fIf, fNil, fCons, fTup, fLst, fL, gI, gI0, gAdd, PD.gSub, gMul, gDiv, gMod, gPow, gNeg, gLt, gLe, gGt, gGe, gEq, gNe, eqS, gIsN, gNotN, gIn, gNotIn, D.seq, gIx, gIxC, fIxO, fIxOC, fLenO, olAt, Cell.ols, Cell.upd, putL, gSetOC, gAbs, gInt, gLen, gTuple, gList, gMax, gMin, gInts, gBls, iLst, PD.iTup, iRg1, iRg2, gNm, gsNil, gsCons, gTu, fCall, fCallM, fCallL, fCat, gCat, gCatT, fSl, fSlT, oNone, oSome, fGet, fGet2, dicAt, dKey, fSortIt, fYes, endsOf, endsM, wipeC, restoreC, keepC, List.getElem?_cons_zero, List.getElem?_cons_succ, List.set_cons_zero, List.set_cons_succ, List.length_cons, List.length_nil, List.getElem?_nil, Nat.beq, Nat.ble, Nat.blt, Nat.reduceAdd, Nat.reduceLeDiff, Nat.reduceLT, Nat.zero_add, Nat.reduceSucc, Nat.beq_eq]
    rw [val_key]
    have fb := fw_bound f3
    refine ifB (fun e => ?_) (fun e => ?_)
    · have e : (f : Int) ∈ ks := of_decide_eq_true e
      have ef := (mem f).mp e
      have f4 : ∀ k, 2 ≤ k → k < f + 1 → k ∈ (lst Q most).map (rkN P Q) := fun k a b => by
        by_cases h : k = f
        · rw [h]; exact ef
        · exact f3 k a (by omega)
      have fb2 := fw_bound f4
      exact ⟨(lst Q most).length + 3 - (f + 1), by omega, f + 1, rfl, by omega, f4, rfl⟩
    · have e : ¬ (f : Int) ∈ ks := of_decide_eq_false e
      exact hR f ⟨f2, fun z => e ((mem f).mpr z), f3⟩
/-! the law's ranks -/
theorem ln__law_rank : ∀ ds R, ct__law_rank ds R → ds.length = 3 := by
  rintro ds R ⟨P, Q, m, most, _, _, _, _, rfl, _⟩; rfl
theorem pu__law_rank : ∀ ds R, ct__law_rank ds R → t__law_rank (endsOf R) (startC N__law_rank (ds.map .sh)) := by
  rintro ds R ⟨P, Q, m, most, ⟨a1, a2, b1, b2⟩, hm, hm2, hmost, rfl, hR⟩
  change t__law_rank _ [.sh (.tup [.int P, .int Q]), .sh (.int m), .sh (.int most), .un, .un, .un]
  dsimp only [t__law_rank, sSeq, sNil, sRet, sRetN, sExpr, sIf, sSet, sSetL, sAsg, sPar, sParL, sPar3, sAug, sBreak, sCont, sNo, sApp, sExt, sSetD, fIn, fRev, fDi, sPut, sSetK, fVar, fNm, fC, fOp, fUn, fCa, fCaL, fBo, fCh, fAnd, fOr, fNot, fAndV, fOrV, fNotV, fIf, fNil, fCons, fTup, fLst, fL, gI, gI0, gAdd, PD.gSub, gMul, gDiv, gMod, gPow, gNeg, gLt, gLe, gGt, gGe, gEq, gNe, eqS, gIsN, gNotN, gIn, gNotIn, D.seq, gIx, gIxC, fIxO, fIxOC, fLenO, olAt, Cell.ols, Cell.upd, putL, gSetOC, gAbs, gInt, gLen, gTuple, gList, gMax, gMin, gInts, gBls, iLst, PD.iTup, iRg1, iRg2, gNm, gsNil, gsCons, gTu, fCall, fCallM, fCallL, fCat, gCat, gCatT, fSl, fSlT, oNone, oSome, fGet, fGet2, dicAt, dKey, fSortIt, fYes, endsOf, endsM, wipeC, restoreC, keepC, List.getElem?_cons_zero, List.getElem?_cons_succ, List.set_cons_zero, List.set_cons_succ, List.length_cons, List.length_nil, List.getElem?_nil, Nat.beq, Nat.ble, Nat.blt, Nat.reduceAdd, Nat.reduceLeDiff, Nat.reduceLT, Nat.zero_add, Nat.reduceSucc, Nat.beq_eq]
  refine ⟨RgOk.of (by decide) (by decide), RgOk.of (by omega) (by omega), ?_⟩
  rw [show ((most : Int) + 1 - 1).toNat = most by omega]
  unfold lrk at hR
  refine ⟨fun i ρ => i ≤ most ∧ (∀ j, j < i → U P Q (j + 1) % m ≠ 0) ∧ ∃ (c : Cell) (x y : Int), ρ = [.sh (.tup [.int P, .int Q]), .sh (.int m), .sh (.int most), c, .sh (.int x), .sh (.int y)] ∧ x % m = U P Q i % m ∧ y % m = U P Q (i + 1) % m, ⟨Nat.zero_le _, fun j h => by omega, _, 0, 1, rfl, rfl, rfl⟩, ?_, ?_⟩
  · rintro i d ρ hd ⟨_, hno, c, x, y, rfl, hx, hy⟩
    obtain ⟨hi, rfl⟩ := rg_get hd
    try dsimp only [sSeq, sNil, sRet, sRetN, sExpr, sIf, sSet, sSetL, sAsg, sPar, sParL, sPar3, sAug, sBreak, sCont, sNo, sApp, sExt, sSetD, fIn, fRev, fDi, sPut, sSetK, fVar, fNm, fC, fOp, fUn, fCa, fCaL, fBo, fCh, fAnd, fOr, fNot, fAndV, fOrV, fNotV, fIf, fNil, fCons, fTup, fLst, fL, gI, gI0, gAdd, PD.gSub, gMul, gDiv, gMod, gPow, gNeg, gLt, gLe, gGt, gGe, gEq, gNe, eqS, gIsN, gNotN, gIn, gNotIn, D.seq, gIx, gIxC, fIxO, fIxOC, fLenO, olAt, Cell.ols, Cell.upd, putL, gSetOC, gAbs, gInt, gLen, gTuple, gList, gMax, gMin, gInts, gBls, iLst, PD.iTup, iRg1, iRg2, gNm, gsNil, gsCons, gTu, fCall, fCallM, fCallL, fCat, gCat, gCatT, fSl, fSlT, oNone, oSome, fGet, fGet2, dicAt, dKey, fSortIt, fYes, endsOf, endsM, wipeC, restoreC, keepC, List.getElem?_cons_zero, List.getElem?_cons_succ, List.set_cons_zero, List.set_cons_succ, List.length_cons, List.length_nil, List.getElem?_nil, Nat.beq, Nat.ble, Nat.blt, Nat.reduceAdd, Nat.reduceLeDiff, Nat.reduceLT, Nat.zero_add, Nat.reduceSucc, Nat.beq_eq]
    refine ⟨hm, ifb (fun e => ?_) (fun e => ?_)⟩
    · have e : y % m = 0 := e
      rw [hy] at e
      have hf : (List.range most).find? (fun i => decide (U P Q (i + 1) % m = 0)) = some i := List.find?_range_eq_some.mpr ⟨decide_eq_true e, List.mem_range.mpr hi, fun j hj => by simp [hno j hj]⟩
      rw [hf] at hR
      have hR : R (.int ((i + 1 : Nat) : Int)) := hR
      rw [show (1 : Int) + (i : Nat) = ((i + 1 : Nat) : Int) by omega]
      exact hR
    · have e : ¬ y % m = 0 := e
      rw [hy] at e
      refine ⟨PD.MulOk.l (by omega) (by omega), PD.MulOk.l (by omega) (by omega), hm, by omega, fun j hj => ?_, _, y, (P * y - Q * x) % m, rfl, hy, ?_⟩
      · by_cases h : j = i
        · rw [h]; exact e
        · exact hno j (by omega)
      · rw [Int.emod_emod, ← step_mod P Q m y x, hy, hx, step_mod]
        rfl
  · rintro ρ ⟨_, hno, c, x, y, rfl, _, _⟩
    rw [rgD_len] at hno
    have hf : (List.range most).find? (fun i => decide (U P Q (i + 1) % m = 0)) = none := List.find?_eq_none.mpr fun i hi => by simp [hno i (List.mem_range.mp hi)]
    rw [hf] at hR
    exact hR
theorem lrk_ok {P Q : Int} {p : Nat} (h : Ok Q p) : lrk P Q p (p + 1) = .int ((rkN P Q p : Nat) : Int) := by
  obtain ⟨r1, r2, r3, r4⟩ := rk_spec (P := P) h
  have hf : (List.range (p + 1)).find? (fun i => decide (U P Q (i + 1) % (p : Int) = 0)) = some (rkN P Q p - 1) := by
    refine List.find?_range_eq_some.mpr ⟨decide_eq_true ?_, List.mem_range.mpr (by omega), fun j hj => ?_⟩
    · rw [show rkN P Q p - 1 + 1 = rkN P Q p by omega]; exact r3
    · simp [r4 (j + 1) (by omega) (by omega)]
  unfold lrk
  rw [hf]
  show D.int ((rkN P Q p - 1 + 1 : Nat) : Int) = _
  rw [show rkN P Q p - 1 + 1 = rkN P Q p by omega]
end K84

namespace K84
open PySem PySem.Spec L2 PD RowU
def prs (P Q : Int) (most : Nat) : List D := (lst Q most).map fun (p : Nat) => .tup [.int (p : Int), .int (rkN P Q p : Nat)]
theorem ln__law_ranks : ∀ ds R, ct__law_ranks ds R → ds.length = 2 := by
  rintro ds R ⟨P, Q, most, _, _, _, rfl, _⟩; rfl
def natL (l : List Nat) : List D := l.map fun (p : Nat) => .int (p : Int)
theorem rg_nat (most : Nat) (h : 2 ≤ most) : rgD 2 ((most : Int) + 1 - 2).toNat = natL ((List.range (most - 1)).map (· + 2)) := by
  have e : ((most : Int) + 1 - 2).toNat = most - 1 := by omega
  rw [e]
  unfold rgD natL
  rw [List.map_map]
  refine List.map_congr_left fun i _ => ?_
  show D.int (2 + (i : Nat)) = D.int (((i + 2 : Nat) : Int))
  rw [show ((2 : Int) + (i : Nat)) = ((i + 2 : Nat) : Int) by omega]
theorem pu__law_ranks : ∀ ds R, ct__law_ranks ds R → t__law_ranks (endsOf R) (startC N__law_ranks (ds.map .sh)) := by
  rintro ds R ⟨P, Q, most, hb, h1, h2, rfl, hR⟩
  change t__law_ranks _ [.sh (.tup [.int P, .int Q]), .sh (.int most), .un, .un]
  have hlen := lst_len Q most
  dsimp only [t__law_ranks, sSeq, sNil, sRet, sRetN, sExpr, sIf, sSet, sSetL, sAsg, sPar, sParL, sPar3, sAug, sBreak, sCont, sNo, sApp, sExt, sSetD, fIn, fRev, fDi, sPut, sSetK, fVar, fNm, fC, fOp, fUn, fCa, fCaL, fBo, fCh, fAnd, fOr, fNot, fAndV, fOrV, fNotV, fIf, fNil, fCons, fTup, fLst, fL, gI, gI0, gAdd, PD.gSub, gMul, gDiv, gMod, gPow, gNeg, gLt, gLe, gGt, gGe, gEq, gNe, eqS, gIsN, gNotN, gIn, gNotIn, D.seq, gIx, gIxC, fIxO, fIxOC, fLenO, olAt, Cell.ols, Cell.upd, putL, gSetOC, gAbs, gInt, gLen, gTuple, gList, gMax, gMin, gInts, gBls, iLst, PD.iTup, iRg1, iRg2, gNm, gsNil, gsCons, gTu, fCall, fCallM, fCallL, fCat, gCat, gCatT, fSl, fSlT, oNone, oSome, fGet, fGet2, dicAt, dKey, fSortIt, fYes, endsOf, endsM, wipeC, restoreC, keepC, List.getElem?_cons_zero, List.getElem?_cons_succ, List.set_cons_zero, List.set_cons_succ, List.length_cons, List.length_nil, List.getElem?_nil, Nat.beq, Nat.ble, Nat.blt, Nat.reduceAdd, Nat.reduceLeDiff, Nat.reduceLT, Nat.zero_add, Nat.reduceSucc, Nat.beq_eq]
  refine fLc_i ⟨RgOk.of (by decide) (by decide), RgOk.of (by omega) (by omega), ?_⟩
  rw [rg_nat most h1]
  refine lc_run (items := natL ((List.range (most - 1)).map (· + 2))) (fun d => prB (natD d)) (fun d => d) (by unfold natL; rw [List.length_map, List.length_map, List.length_range]; omega) (fun d hd P1 P0 k1 k0 => ?_) ?_
  · obtain ⟨p, hp, rfl⟩ := List.mem_map.mp hd
    obtain ⟨i, hi, rfl⟩ := List.mem_map.mp hp
    have hi := List.mem_range.mp hi
    try dsimp only [sSeq, sNil, sRet, sRetN, sExpr, sIf, sSet, sSetL, sAsg, sPar, sParL, sPar3, sAug, sBreak, sCont, sNo, sApp, sExt, sSetD, fIn, fRev, fDi, sPut, sSetK, fVar, fNm, fC, fOp, fUn, fCa, fCaL, fBo, fCh, fAnd, fOr, fNot, fAndV, fOrV, fNotV, fIf, fNil, fCons, fTup, fLst, fL, gI, gI0, gAdd, PD.gSub, gMul, gDiv, gMod, gPow, gNeg, gLt, gLe, gGt, gGe, gEq, gNe, eqS, gIsN, gNotN, gIn, gNotIn, D.seq, gIx, gIxC, fIxO, fIxOC, fLenO, olAt, Cell.ols, Cell.upd, putL, gSetOC, gAbs, gInt, gLen, gTuple, gList, gMax, gMin, gInts, gBls, iLst, PD.iTup, iRg1, iRg2, gNm, gsNil, gsCons, gTu, fCall, fCallM, fCallL, fCat, gCat, gCatT, fSl, fSlT, oNone, oSome, fGet, fGet2, dicAt, dKey, fSortIt, fYes, endsOf, endsM, wipeC, restoreC, keepC, List.getElem?_cons_zero, List.getElem?_cons_succ, List.set_cons_zero, List.set_cons_succ, List.length_cons, List.length_nil, List.getElem?_nil, Nat.beq, Nat.ble, Nat.blt, Nat.reduceAdd, Nat.reduceLeDiff, Nat.reduceLT, Nat.zero_add, Nat.reduceSucc, Nat.beq_eq]
    refine ⟨i + 2, rfl, by omega, by omega, ?_⟩
    refine ifB (fun e => k1 e _ rfl) (fun e => k0 e _ rfl)
  unfold natL
  rw [List.map_id', filD _ prB _ fun p => rfl]
  try dsimp only [sSeq, sNil, sRet, sRetN, sExpr, sIf, sSet, sSetL, sAsg, sPar, sParL, sPar3, sAug, sBreak, sCont, sNo, sApp, sExt, sSetD, fIn, fRev, fDi, sPut, sSetK, fVar, fNm, fC, fOp, fUn, fCa, fCaL, fBo, fCh, fAnd, fOr, fNot, fAndV, fOrV, fNotV, fIf, fNil, fCons, fTup, fLst, fL, gI, gI0, gAdd, PD.gSub, gMul, gDiv, gMod, gPow, gNeg, gLt, gLe, gGt, gGe, gEq, gNe, eqS, gIsN, gNotN, gIn, gNotIn, D.seq, gIx, gIxC, fIxO, fIxOC, fLenO, olAt, Cell.ols, Cell.upd, putL, gSetOC, gAbs, gInt, gLen, gTuple, gList, gMax, gMin, gInts, gBls, iLst, PD.iTup, iRg1, iRg2, gNm, gsNil, gsCons, gTu, fCall, fCallM, fCallL, fCat, gCat, gCatT, fSl, fSlT, oNone, oSome, fGet, fGet2, dicAt, dKey, fSortIt, fYes, endsOf, endsM, wipeC, restoreC, keepC, List.getElem?_cons_zero, List.getElem?_cons_succ, List.set_cons_zero, List.set_cons_succ, List.length_cons, List.length_nil, List.getElem?_nil, Nat.beq, Nat.ble, Nat.blt, Nat.reduceAdd, Nat.reduceLeDiff, Nat.reduceLT, Nat.zero_add, Nat.reduceSucc, Nat.beq_eq]
  refine fLc_i ?_
  try dsimp only [sSeq, sNil, sRet, sRetN, sExpr, sIf, sSet, sSetL, sAsg, sPar, sParL, sPar3, sAug, sBreak, sCont, sNo, sApp, sExt, sSetD, fIn, fRev, fDi, sPut, sSetK, fVar, fNm, fC, fOp, fUn, fCa, fCaL, fBo, fCh, fAnd, fOr, fNot, fAndV, fOrV, fNotV, fIf, fNil, fCons, fTup, fLst, fL, gI, gI0, gAdd, PD.gSub, gMul, gDiv, gMod, gPow, gNeg, gLt, gLe, gGt, gGe, gEq, gNe, eqS, gIsN, gNotN, gIn, gNotIn, D.seq, gIx, gIxC, fIxO, fIxOC, fLenO, olAt, Cell.ols, Cell.upd, putL, gSetOC, gAbs, gInt, gLen, gTuple, gList, gMax, gMin, gInts, gBls, iLst, PD.iTup, iRg1, iRg2, gNm, gsNil, gsCons, gTu, fCall, fCallM, fCallL, fCat, gCat, gCatT, fSl, fSlT, oNone, oSome, fGet, fGet2, dicAt, dKey, fSortIt, fYes, endsOf, endsM, wipeC, restoreC, keepC, List.getElem?_cons_zero, List.getElem?_cons_succ, List.set_cons_zero, List.set_cons_succ, List.length_cons, List.length_nil, List.getElem?_nil, Nat.beq, Nat.ble, Nat.blt, Nat.reduceAdd, Nat.reduceLeDiff, Nat.reduceLT, Nat.zero_add, Nat.reduceSucc, Nat.beq_eq]
  refine lc_run (items := natL (((List.range (most - 1)).map (· + 2)).filter prB)) (fun d => decide (Q % ((natD d : Nat) : Int) ≠ 0)) (fun d => d) (by unfold natL; rw [List.length_map]; exact Nat.le_trans (List.length_filter_le _ _) (by rw [List.length_map, List.length_range]; omega)) (fun d hd P1 P0 k1 k0 => ?_) ?_
  · obtain ⟨p, hp, rfl⟩ := List.mem_map.mp hd
    obtain ⟨i, hi, rfl⟩ := List.mem_map.mp (List.mem_filter.mp hp).1
    try dsimp only [sSeq, sNil, sRet, sRetN, sExpr, sIf, sSet, sSetL, sAsg, sPar, sParL, sPar3, sAug, sBreak, sCont, sNo, sApp, sExt, sSetD, fIn, fRev, fDi, sPut, sSetK, fVar, fNm, fC, fOp, fUn, fCa, fCaL, fBo, fCh, fAnd, fOr, fNot, fAndV, fOrV, fNotV, fIf, fNil, fCons, fTup, fLst, fL, gI, gI0, gAdd, PD.gSub, gMul, gDiv, gMod, gPow, gNeg, gLt, gLe, gGt, gGe, gEq, gNe, eqS, gIsN, gNotN, gIn, gNotIn, D.seq, gIx, gIxC, fIxO, fIxOC, fLenO, olAt, Cell.ols, Cell.upd, putL, gSetOC, gAbs, gInt, gLen, gTuple, gList, gMax, gMin, gInts, gBls, iLst, PD.iTup, iRg1, iRg2, gNm, gsNil, gsCons, gTu, fCall, fCallM, fCallL, fCat, gCat, gCatT, fSl, fSlT, oNone, oSome, fGet, fGet2, dicAt, dKey, fSortIt, fYes, endsOf, endsM, wipeC, restoreC, keepC, List.getElem?_cons_zero, List.getElem?_cons_succ, List.set_cons_zero, List.set_cons_succ, List.length_cons, List.length_nil, List.getElem?_nil, Nat.beq, Nat.ble, Nat.blt, Nat.reduceAdd, Nat.reduceLeDiff, Nat.reduceLT, Nat.zero_add, Nat.reduceSucc, Nat.beq_eq]
    refine ⟨by omega, ?_⟩
    by_cases z : Q % (((i + 2 : Nat) : Int)) = 0
    · rw [decide_eq_true z]
      exact k0 (decide_eq_false fun w => w z) _ rfl
    · rw [decide_eq_false z]
      exact k1 (decide_eq_true z) _ rfl
  have e2 : (natL (((List.range (most - 1)).map (· + 2)).filter prB)).filter (fun d => decide (Q % ((natD d : Nat) : Int) ≠ 0)) = natL (lst Q most) := by
    unfold natL lst
    rw [filD _ (fun (p : Nat) => decide (Q % (p : Int) ≠ 0)) _ fun p => rfl, List.filter_filter]
    congr 1
    exact List.filter_congr fun p _ => Bool.and_comm _ _
  rw [List.map_id', e2]
  try dsimp only [sSeq, sNil, sRet, sRetN, sExpr, sIf, sSet, sSetL, sAsg, sPar, sParL, sPar3, sAug, sBreak, sCont, sNo, sApp, sExt, sSetD, fIn, fRev, fDi, sPut, sSetK, fVar, fNm, fC, fOp, fUn, fCa, fCaL, fBo, fCh, fAnd, fOr, fNot, fAndV, fOrV, fNotV, fIf, fNil, fCons, fTup, fLst, fL, gI, gI0, gAdd, PD.gSub, gMul, gDiv, gMod, gPow, gNeg, gLt, gLe, gGt, gGe, gEq, gNe, eqS, gIsN, gNotN, gIn, gNotIn, D.seq, gIx, gIxC, fIxO, fIxOC, fLenO, olAt, Cell.ols, Cell.upd, putL, gSetOC, gAbs, gInt, gLen, gTuple, gList, gMax, gMin, gInts, gBls, iLst, PD.iTup, iRg1, iRg2, gNm, gsNil, gsCons, gTu, fCall, fCallM, fCallL, fCat, gCat, gCatT, fSl, fSlT, oNone, oSome, fGet, fGet2, dicAt, dKey, fSortIt, fYes, endsOf, endsM, wipeC, restoreC, keepC, List.getElem?_cons_zero, List.getElem?_cons_succ, List.set_cons_zero, List.set_cons_succ, List.length_cons, List.length_nil, List.getElem?_nil, Nat.beq, Nat.ble, Nat.blt, Nat.reduceAdd, Nat.reduceLeDiff, Nat.reduceLT, Nat.zero_add, Nat.reduceSucc, Nat.beq_eq]
  refine fLc_i ?_
  try dsimp only [sSeq, sNil, sRet, sRetN, sExpr, sIf, sSet, sSetL, sAsg, sPar, sParL, sPar3, sAug, sBreak, sCont, sNo, sApp, sExt, sSetD, fIn, fRev, fDi, sPut, sSetK, fVar, fNm, fC, fOp, fUn, fCa, fCaL, fBo, fCh, fAnd, fOr, fNot, fAndV, fOrV, fNotV, fIf, fNil, fCons, fTup, fLst, fL, gI, gI0, gAdd, PD.gSub, gMul, gDiv, gMod, gPow, gNeg, gLt, gLe, gGt, gGe, gEq, gNe, eqS, gIsN, gNotN, gIn, gNotIn, D.seq, gIx, gIxC, fIxO, fIxOC, fLenO, olAt, Cell.ols, Cell.upd, putL, gSetOC, gAbs, gInt, gLen, gTuple, gList, gMax, gMin, gInts, gBls, iLst, PD.iTup, iRg1, iRg2, gNm, gsNil, gsCons, gTu, fCall, fCallM, fCallL, fCat, gCat, gCatT, fSl, fSlT, oNone, oSome, fGet, fGet2, dicAt, dKey, fSortIt, fYes, endsOf, endsM, wipeC, restoreC, keepC, List.getElem?_cons_zero, List.getElem?_cons_succ, List.set_cons_zero, List.set_cons_succ, List.length_cons, List.length_nil, List.getElem?_nil, Nat.beq, Nat.ble, Nat.blt, Nat.reduceAdd, Nat.reduceLeDiff, Nat.reduceLT, Nat.zero_add, Nat.reduceSucc, Nat.beq_eq]
  refine lc_run (items := natL (lst Q most)) (fun _ => true) (fun d => .tup [d, .int (rkN P Q (natD d) : Nat)]) (by unfold natL; rw [List.length_map]; omega) (fun d hd P1 P0 k1 k0 => ?_) ?_
  · obtain ⟨p, hp, rfl⟩ := List.mem_map.mp hd
    have ok := lst_ok (P := P) h2 hp
    try dsimp only [sSeq, sNil, sRet, sRetN, sExpr, sIf, sSet, sSetL, sAsg, sPar, sParL, sPar3, sAug, sBreak, sCont, sNo, sApp, sExt, sSetD, fIn, fRev, fDi, sPut, sSetK, fVar, fNm, fC, fOp, fUn, fCa, fCaL, fBo, fCh, fAnd, fOr, fNot, fAndV, fOrV, fNotV, fIf, fNil, fCons, fTup, fLst, fL, gI, gI0, gAdd, PD.gSub, gMul, gDiv, gMod, gPow, gNeg, gLt, gLe, gGt, gGe, gEq, gNe, eqS, gIsN, gNotN, gIn, gNotIn, D.seq, gIx, gIxC, fIxO, fIxOC, fLenO, olAt, Cell.ols, Cell.upd, putL, gSetOC, gAbs, gInt, gLen, gTuple, gList, gMax, gMin, gInts, gBls, iLst, PD.iTup, iRg1, iRg2, gNm, gsNil, gsCons, gTu, fCall, fCallM, fCallL, fCat, gCat, gCatT, fSl, fSlT, oNone, oSome, fGet, fGet2, dicAt, dKey, fSortIt, fYes, endsOf, endsM, wipeC, restoreC, keepC, List.getElem?_cons_zero, List.getElem?_cons_succ, List.set_cons_zero, List.set_cons_succ, List.length_cons, List.length_nil, List.getElem?_nil, Nat.beq, Nat.ble, Nat.blt, Nat.reduceAdd, Nat.reduceLeDiff, Nat.reduceLT, Nat.zero_add, Nat.reduceSucc, Nat.beq_eq]
    rw [if_pos rfl]
    have ep : (p : Int) + 1 = ((p + 1 : Nat) : Int) := by omega
    rw [ep]
    refine ⟨P, Q, p, p + 1, hb, by omega, by omega, by omega, rfl, ?_⟩
    rw [lrk_ok ok.1]
    exact k1 rfl _ rfl
  · unfold natL
    rw [List.filter_eq_self.mpr fun _ _ => rfl, mapD _ (fun p => D.tup [.int (p : Int), .int (rkN P Q p : Nat)]) _ fun p => rfl]
    exact hR
/-! what the law compares -/
theorem lrk_tw {P Q : Int} {p : Nat} (h : Ok Q p) : eqS (lrk P Q ((p : Int) * p) (rkN P Q p)) (.int (rkN P Q p : Nat)) = some (twice P Q p) := by
  obtain ⟨r1, r2, r3, r4⟩ := rk_spec (P := P) h
  have less : ∀ j, j + 1 < rkN P Q p → ¬ U P Q (j + 1) % ((p : Int) * p) = 0 := fun j hj z => by
    refine r4 (j + 1) (by omega) hj ?_
    have d : (p : Int) ∣ U P Q (j + 1) := Int.dvd_trans ⟨(p : Int), rfl⟩ (Int.dvd_of_emod_eq_zero z)
    exact Int.emod_eq_zero_of_dvd d
  unfold lrk twice
  by_cases z : U P Q (rkN P Q p) % ((p : Int) * p) = 0
  · have hf : (List.range (rkN P Q p)).find? (fun i => decide (U P Q (i + 1) % ((p : Int) * p) = 0)) = some (rkN P Q p - 1) := by
      refine List.find?_range_eq_some.mpr ⟨decide_eq_true ?_, List.mem_range.mpr (by omega), fun j hj => ?_⟩
      · rw [show rkN P Q p - 1 + 1 = rkN P Q p by omega]; exact z
      · simp [less j (by omega)]
    rw [hf, decide_eq_true z]
    show some (decide (((rkN P Q p - 1 + 1 : Nat) : Int) = ((rkN P Q p : Nat) : Int))) = some true
    rw [decide_eq_true (by omega)]
  · have hf : (List.range (rkN P Q p)).find? (fun i => decide (U P Q (i + 1) % ((p : Int) * p) = 0)) = none := by
      refine List.find?_eq_none.mpr fun i hi => ?_
      have hi := List.mem_range.mp hi
      by_cases h : i + 1 = rkN P Q p
      · rw [h]; simp [z]
      · simp [less i (by omega)]
    rw [hf, decide_eq_false z]
    rfl
theorem lst_mono {Q : Int} {most wide p : Nat} (h : most ≤ wide) (hp : p ∈ lst Q most) : p ∈ lst Q wide := by
  obtain ⟨h1, h2⟩ := List.mem_filter.mp hp
  obtain ⟨i, hi, rfl⟩ := List.mem_map.mp h1
  have hi := List.mem_range.mp hi
  exact List.mem_filter.mpr ⟨List.mem_map.mpr ⟨i, List.mem_range.mpr (by omega), rfl⟩, h2⟩
theorem fw_mono {P Q : Int} {most wide f g : Nat} (h : most ≤ wide) (hf : Fw P Q most f) (hg : Fw P Q wide g) : f ≤ g := by
  refine Nat.le_of_not_lt fun z => hg.2.1 ?_
  obtain ⟨p, hp, e⟩ := List.mem_map.mp (hf.2.2 g hg.1 z)
  exact List.mem_map.mpr ⟨p, lst_mono h hp, e⟩
theorem fw_uniq {P Q : Int} {most f g : Nat} (hf : Fw P Q most f) (hg : Fw P Q most g) : f = g := Nat.le_antisymm (fw_mono (Nat.le_refl _) hf hg) (fw_mono (Nat.le_refl _) hg hf)
theorem fw_ex (P Q : Int) (most : Nat) : ∃ i, (List.range ((lst Q most).length + 1)).find? (fun i => !decide (i + 2 ∈ (lst Q most).map (rkN P Q))) = some i ∧ Fw P Q most (i + 2) := by
  cases e : (List.range ((lst Q most).length + 1)).find? (fun i => !decide (i + 2 ∈ (lst Q most).map (rkN P Q))) with
  | none =>
    exfalso
    have h := List.find?_eq_none.mp e
    have := fw_bound (P := P) (Q := Q) (most := most) (f := (lst Q most).length + 3) fun k k2 k3 => by
      have := h (k - 2) (List.mem_range.mpr (by omega))
      rw [show k - 2 + 2 = k by omega] at this
      simpa using this
    omega
  | some i =>
    obtain ⟨a, b, c⟩ := List.find?_range_eq_some.mp e
    refine ⟨i, rfl, by omega, by simpa using a, fun k k2 k3 => ?_⟩
    have := c (k - 2) (by omega)
    rw [show k - 2 + 2 = k by omega] at this
    simpa using this
end K84

namespace K84
open PySem PySem.Spec L2 PD RowU
/-! what is shown -/
mutual
def shB : D → Bool
  | .non => true
  | .bl _ => true
  | .int i => decide (i.natAbs.log2 < 1920)
  | .str x => x.cps.toList.all fun c => decide (c < 16 ^ 8)
  | .lst xs => shAllB xs
  | .tup xs => shAllB xs
  | .dic _ => false
  | .obj _ => false
  | .scr _ => false
def shAllB : List D → Bool
  | [] => true
  | x :: xs => shB x && shAllB xs
end
mutual
theorem shB_ok : ∀ d : D, shB d = true → d.sho
  | .non, _ => trivial
  | .bl _, _ => trivial
  | .int i, h => (of_decide_eq_true h : i.natAbs.log2 < 1920)
  | .str x, h => fun c hc => of_decide_eq_true (List.all_eq_true.mp h c hc)
  | .lst xs, h => shAllB_ok xs h
  | .tup xs, h => shAllB_ok xs h
  | .dic _, h => nomatch h
  | .obj _, h => nomatch h
  | .scr _, h => nomatch h
theorem shAllB_ok : ∀ ds : List D, shAllB ds = true → shoAll ds
  | [], _ => trivial
  | x :: xs, h => by
    have h := Bool.and_eq_true_iff.mp (show (shB x && shAllB xs) = true from h)
    exact ⟨shB_ok x h.1, shAllB_ok xs h.2⟩
end
theorem ne_same {x : Str} {A B : Prop} (h : B) : if (!decide (x = x)) = true then A else B := by
  rw [decide_eq_true rfl]
  exact h
theorem sho_nat {k : Nat} (h : k < 2 ^ 200) : (D.int (k : Int)).sho := by
  show ((k : Int).natAbs).log2 < 1920
  rw [Int.natAbs_natCast]
  by_cases e : k = 0
  · rw [e]; decide
  · exact Nat.lt_of_lt_of_le ((Nat.log2_lt e).mpr h) (by decide)
theorem sho_natL : ∀ l : List Nat, (∀ k ∈ l, k < 1000) → shoAll (natL l) ∧ blkAll (natL l) = l.length ∧ dpAll (natL l) = 0
  | [], _ => ⟨trivial, rfl, rfl⟩
  | m :: l, h => by
    obtain ⟨a, b, c⟩ := sho_natL l fun k hk => h k (List.mem_cons_of_mem _ hk)
    have h1 := h m (List.mem_cons_self ..)
    refine ⟨⟨sho_nat (Nat.lt_of_lt_of_le (show m < 2 ^ 10 by omega) (Nat.pow_le_pow_right (by decide) (by decide))), a⟩, ?_, ?_⟩
    · show 0 + 1 + blkAll (natL l) = _
      rw [b, List.length_cons]; omega
    · show max 0 (dpAll (natL l)) = 0
      rw [c]; rfl
theorem repr_two {l m : List Nat} (hl : ∀ k ∈ l, k < 1000) (hm : ∀ k ∈ m, k < 1000) (h1 : l.length ≤ 1000) (h2 : m.length ≤ 1000) {P : D → Prop} (hP : P (.str (D.lst [.tup (natL l), .tup (natL m)]).shw)) : gRepr [.lst [.tup (natL l), .tup (natL m)]] P := by
  obtain ⟨a, b, c⟩ := sho_natL l hl
  obtain ⟨a', b', c'⟩ := sho_natL m hm
  refine ⟨⟨a, a', trivial⟩, ?_, ?_, hP⟩
  · show blkAll (natL l) + 1 + (blkAll (natL m) + 1 + 0) ≤ 8000
    omega
  · show max (dpAll (natL l) + 1) (max (dpAll (natL m) + 1) 0) + 1 ≤ 60
    omega
theorem repr_nat {k : Nat} (h : k < 1000) {P : D → Prop} (hP : P (.str (D.int (k : Int)).shw)) : gRepr [.int (k : Int)] P := ⟨sho_nat (Nat.lt_of_lt_of_le (show k < 2 ^ 10 by omega) (Nat.pow_le_pow_right (by decide) (by decide))), (show 0 ≤ 8000 by decide), (show 0 ≤ 60 by decide), hP⟩
theorem eqv_natL : ∀ l : List Nat, PyData.eqvAll (pyAll (natL l)) (pyAll (natL l)) = true ∧ PyData.canLayAll0 (pyAll (natL l)) = true ∧ PyData.depthAll (pyAll (natL l)) = 0 ∧ plAll (natL l) = true
  | [] => ⟨rfl, rfl, rfl, rfl⟩
  | m :: l => by
    obtain ⟨a, b, c, d⟩ := eqv_natL l
    refine ⟨?_, ?_, ?_, ?_⟩
    · show (PyData.eqv (.int (m : Int)) (.int (m : Int)) && PyData.eqvAll (pyAll (natL l)) (pyAll (natL l))) = true
      rw [a]
      simp [PyData.eqv]
    · show (PyData.canLay0 (.int (m : Int)) && PyData.canLayAll0 (pyAll (natL l))) = true
      rw [b]
      simp [PyData.canLay0]
    · show max (PyData.depth (.int (m : Int))) (PyData.depthAll (pyAll (natL l))) = 0
      rw [c]
      rfl
    · show (true && plAll (natL l)) = true
      rw [d]
      rfl
end K84

namespace K84
open PySem PySem.Spec L2 PD RowU
theorem eq_full (l : List Nat) : okEq (.tup (natL l)) (.tup (natL l)) = true ∧ eqD (.tup (natL l)) (.tup (natL l)) = true := by
  obtain ⟨a, b, c, d⟩ := eqv_natL l
  have sh : SeqAt.shaped (D.tup (natL l)).py = true := by
    show (PyData.canLayAll0 (pyAll (natL l)) && decide (PyData.depth (.tuple (pyAll (natL l))) ≤ 64)) = true
    rw [b, Bool.true_and, decide_eq_true_eq]
    show PyData.depthAll (pyAll (natL l)) + 1 ≤ 64
    rw [c]
    decide
  refine ⟨?_, a⟩
  show (plAll (natL l) && (plAll (natL l) && (SeqAt.shaped (D.tup (natL l)).py && SeqAt.shaped (D.tup (natL l)).py))) = true
  rw [d, sh]
  rfl
def fstD : D → D
  | .tup [a, _] => a
  | d => d
def sndD : D → D
  | .tup [_, b] => b
  | d => d
def fullC (d : D) : Bool := match d with
  | .tup [.int p, .int r] => decide (r = p + 1)
  | _ => false
theorem full_map (P Q : Int) (most : Nat) : ((prs P Q most).filter fullC).map fstD = natL (fullL P Q most) := by
  unfold prs fullL natL
  rw [List.filter_map, List.map_map]
  have e : (lst Q most).filter (fullC ∘ fun (p : Nat) => .tup [.int (p : Int), .int (rkN P Q p : Nat)]) = (lst Q most).filter fun p => decide (rkN P Q p = p + 1) := by
    refine List.filter_congr fun p _ => ?_
    show decide (((rkN P Q p : Nat) : Int) = (p : Int) + 1) = _
    exact decide_eq_decide.mpr (by omega)
  rw [e]
  rfl
theorem snd_map (P Q : Int) (most : Nat) : ((prs P Q most).filter fun _ => true).map sndD = natL ((lst Q most).map (rkN P Q)) := by
  unfold prs natL
  rw [List.filter_eq_self.mpr fun _ _ => rfl, List.map_map, List.map_map]
  rfl
theorem in_natL (k : Nat) (l : List Nat) : inD (.int (k : Int)) (natL l) = decide (k ∈ l) := by
  unfold inD inV natL
  rw [List.map_map, List.any_map]
  by_cases h : k ∈ l
  · rw [decide_eq_true h]
    exact List.any_eq_true.mpr ⟨k, h, by simp [D.toV, eqV]⟩
  · rw [decide_eq_false h]
    refine List.any_eq_false.mpr fun x hx => ?_
    have : ¬ x = k := fun z => h (z ▸ hx)
    simp [D.toV, eqV]
    omega
theorem flat_natL (l : List Nat) : (natL l).all D.flat = true := by
  unfold natL
  rw [List.all_map]
  exact List.all_eq_true.mpr fun _ _ => (rfl : true = true)
theorem full_small {P Q : Int} {most : Nat} (hm : most ≤ 240) : ∀ k ∈ fullL P Q most, k < 1000 := fun k hk => by
  have := (lst_ok (P := P) hm (List.mem_filter.mp hk).1).2.2
  omega
theorem tw_small {P Q : Int} {most : Nat} (hm : most ≤ 240) : ∀ k ∈ twL P Q most, k < 1000 := fun k hk => by
  have := (lst_ok (P := P) hm (List.mem_filter.mp hk).1).2.2
  omega
def notC (P Q : Int) (most : Nat) (d : D) : Bool := match d with
  | .int x => !decide (x.toNat ∈ (lst Q most).map (rkN P Q))
  | _ => false
theorem due_head {P Q : Int} {most fi : Nat} (h : (List.range ((lst Q most).length + 1)).find? (fun i => !decide (i + 2 ∈ (lst Q most).map (rkN P Q))) = some fi) : ∃ tl, ((rgD 2 ((lst Q most).length + 1)).filter (notC P Q most)).map (fun d => d) = .int ((fi + 2 : Nat) : Int) :: tl := by
  rw [List.map_id']
  have e : ((rgD 2 ((lst Q most).length + 1)).filter (notC P Q most)).head? = some (.int ((fi + 2 : Nat) : Int)) := by
    rw [List.head?_filter]
    unfold rgD
    rw [List.find?_map]
    have ef : (notC P Q most ∘ fun (i : Nat) => D.int (2 + (i : Nat))) = fun i => !decide (i + 2 ∈ (lst Q most).map (rkN P Q)) := by
      funext i
      show (!decide (((2 : Int) + (i : Nat)).toNat ∈ _)) = _
      rw [show ((2 : Int) + (i : Nat)).toNat = i + 2 by omega]
    rw [ef, h]
    show some (D.int (2 + (fi : Nat))) = _
    rw [show ((2 : Int) + (fi : Nat)) = ((fi + 2 : Nat) : Int) by omega]
  exact List.head?_eq_some_iff.mp e
theorem ln__law_is_right : ∀ hs ds R, ct__law_is_right hs ds R → ds.length + 1 = 2 := by
  rintro hs ds R ⟨_, P, Q, _, rfl, _⟩; rfl
theorem full_len (P Q : Int) (most : Nat) : (fullL P Q most).length ≤ most := Nat.le_trans (List.length_filter_le _ _) (lst_len Q most)
theorem tw_len (P Q : Int) (most : Nat) : (twL P Q most).length ≤ most := Nat.le_trans (List.length_filter_le _ _) (lst_len Q most)
theorem pu__law_is_right : ∀ a hs ds R, ct__law_is_right hs ds R → t__law_is_right (endsM a R) (startC N__law_is_right (.pl a hs :: ds.map .sh)) := by
  rintro a hs ds R ⟨hh, P, Q, hb, rfl, hR⟩
  change t__law_is_right _ [.pl a hs, .sh (.tup [.int P, .int Q]), .un, .un, .un, .un, .un, .un, .un, .un, .un, .un, .un]
  dsimp only [t__law_is_right, sSeq, sNil, sRet, sRetN, sExpr, sIf, sSet, sSetL, sAsg, sPar, sParL, sPar3, sAug, sBreak, sCont, sNo, sApp, sExt, sSetD, fIn, fRev, fDi, sPut, sSetK, fVar, fNm, fC, fOp, fUn, fCa, fCaL, fBo, fCh, fAnd, fOr, fNot, fAndV, fOrV, fNotV, fIf, fNil, fCons, fTup, fLst, fL, gI, gI0, gAdd, PD.gSub, gMul, gDiv, gMod, gPow, gNeg, gLt, gLe, gGt, gGe, gEq, gNe, eqS, gIsN, gNotN, gIn, gNotIn, D.seq, gIx, gIxC, fIxO, fIxOC, fLenO, olAt, Cell.ols, Cell.upd, putL, gSetOC, gAbs, gInt, gLen, gTuple, gList, gMax, gMin, gInts, gBls, iLst, PD.iTup, iRg1, iRg2, gNm, gsNil, gsCons, gTu, fCall, fCallM, fCallL, fCat, gCat, gCatT, fSl, fSlT, oNone, oSome, fGet, fGet2, dicAt, dKey, fSortIt, fYes, endsOf, endsM, wipeC, restoreC, keepC, List.getElem?_cons_zero, List.getElem?_cons_succ, List.set_cons_zero, List.set_cons_succ, List.length_cons, List.length_nil, List.getElem?_nil, Nat.beq, Nat.ble, Nat.blt, Nat.reduceAdd, Nat.reduceLeDiff, Nat.reduceLT, Nat.zero_add, Nat.reduceSucc, Nat.beq_eq]
  refine ⟨hh, _, rfl, (show 0 < 2 by decide), (show 2 < 1000000000 by decide), fun hs1 x hh1 hx => ?_⟩
  obtain ⟨mm, rfl, m1, m2⟩ : ∃ mm : Int, x = .int mm ∧ 0 < mm ∧ mm ≤ 199 := by
    rcases List.mem_cons.mp hx with rfl | hx
    · exact ⟨20, rfl, by decide, by decide⟩
    · rw [List.mem_singleton.mp hx]
      exact ⟨199, rfl, by decide, by decide⟩
  refine ⟨hh1, mm, rfl, m1, by omega, fun hs2 z hh2 z1 z2 => ?_⟩
  obtain ⟨most, hmost, t1, t2⟩ : ∃ most : Nat, 2 + z = (most : Int) ∧ 2 ≤ most ∧ most ≤ 200 := ⟨(2 + z).toNat, by omega, by omega, by omega⟩
  try dsimp only [sSeq, sNil, sRet, sRetN, sExpr, sIf, sSet, sSetL, sAsg, sPar, sParL, sPar3, sAug, sBreak, sCont, sNo, sApp, sExt, sSetD, fIn, fRev, fDi, sPut, sSetK, fVar, fNm, fC, fOp, fUn, fCa, fCaL, fBo, fCh, fAnd, fOr, fNot, fAndV, fOrV, fNotV, fIf, fNil, fCons, fTup, fLst, fL, gI, gI0, gAdd, PD.gSub, gMul, gDiv, gMod, gPow, gNeg, gLt, gLe, gGt, gGe, gEq, gNe, eqS, gIsN, gNotN, gIn, gNotIn, D.seq, gIx, gIxC, fIxO, fIxOC, fLenO, olAt, Cell.ols, Cell.upd, putL, gSetOC, gAbs, gInt, gLen, gTuple, gList, gMax, gMin, gInts, gBls, iLst, PD.iTup, iRg1, iRg2, gNm, gsNil, gsCons, gTu, fCall, fCallM, fCallL, fCat, gCat, gCatT, fSl, fSlT, oNone, oSome, fGet, fGet2, dicAt, dKey, fSortIt, fYes, endsOf, endsM, wipeC, restoreC, keepC, List.getElem?_cons_zero, List.getElem?_cons_succ, List.set_cons_zero, List.set_cons_succ, List.length_cons, List.length_nil, List.getElem?_nil, Nat.beq, Nat.ble, Nat.blt, Nat.reduceAdd, Nat.reduceLeDiff, Nat.reduceLT, Nat.zero_add, Nat.reduceSucc, Nat.beq_eq]
  rw [hmost]
  have hlen := lst_len Q most
  have pl : (prs P Q most).length = (lst Q most).length := by unfold prs; rw [List.length_map]
  refine ⟨P, Q, most, hb, t1, by omega, rfl, ?_⟩
  try dsimp only [sSeq, sNil, sRet, sRetN, sExpr, sIf, sSet, sSetL, sAsg, sPar, sParL, sPar3, sAug, sBreak, sCont, sNo, sApp, sExt, sSetD, fIn, fRev, fDi, sPut, sSetK, fVar, fNm, fC, fOp, fUn, fCa, fCaL, fBo, fCh, fAnd, fOr, fNot, fAndV, fOrV, fNotV, fIf, fNil, fCons, fTup, fLst, fL, gI, gI0, gAdd, PD.gSub, gMul, gDiv, gMod, gPow, gNeg, gLt, gLe, gGt, gGe, gEq, gNe, eqS, gIsN, gNotN, gIn, gNotIn, D.seq, gIx, gIxC, fIxO, fIxOC, fLenO, olAt, Cell.ols, Cell.upd, putL, gSetOC, gAbs, gInt, gLen, gTuple, gList, gMax, gMin, gInts, gBls, iLst, PD.iTup, iRg1, iRg2, gNm, gsNil, gsCons, gTu, fCall, fCallM, fCallL, fCat, gCat, gCatT, fSl, fSlT, oNone, oSome, fGet, fGet2, dicAt, dKey, fSortIt, fYes, endsOf, endsM, wipeC, restoreC, keepC, List.getElem?_cons_zero, List.getElem?_cons_succ, List.set_cons_zero, List.set_cons_succ, List.length_cons, List.length_nil, List.getElem?_nil, Nat.beq, Nat.ble, Nat.blt, Nat.reduceAdd, Nat.reduceLeDiff, Nat.reduceLT, Nat.zero_add, Nat.reduceSucc, Nat.beq_eq]
  refine fLc_i ?_
  try dsimp only [sSeq, sNil, sRet, sRetN, sExpr, sIf, sSet, sSetL, sAsg, sPar, sParL, sPar3, sAug, sBreak, sCont, sNo, sApp, sExt, sSetD, fIn, fRev, fDi, sPut, sSetK, fVar, fNm, fC, fOp, fUn, fCa, fCaL, fBo, fCh, fAnd, fOr, fNot, fAndV, fOrV, fNotV, fIf, fNil, fCons, fTup, fLst, fL, gI, gI0, gAdd, PD.gSub, gMul, gDiv, gMod, gPow, gNeg, gLt, gLe, gGt, gGe, gEq, gNe, eqS, gIsN, gNotN, gIn, gNotIn, D.seq, gIx, gIxC, fIxO, fIxOC, fLenO, olAt, Cell.ols, Cell.upd, putL, gSetOC, gAbs, gInt, gLen, gTuple, gList, gMax, gMin, gInts, gBls, iLst, PD.iTup, iRg1, iRg2, gNm, gsNil, gsCons, gTu, fCall, fCallM, fCallL, fCat, gCat, gCatT, fSl, fSlT, oNone, oSome, fGet, fGet2, dicAt, dKey, fSortIt, fYes, endsOf, endsM, wipeC, restoreC, keepC, List.getElem?_cons_zero, List.getElem?_cons_succ, List.set_cons_zero, List.set_cons_succ, List.length_cons, List.length_nil, List.getElem?_nil, Nat.beq, Nat.ble, Nat.blt, Nat.reduceAdd, Nat.reduceLeDiff, Nat.reduceLT, Nat.zero_add, Nat.reduceSucc, Nat.beq_eq]
  have pin : ∀ d ∈ prs P Q most, ∃ p ∈ lst Q most, d = .tup [.int (p : Int), .int (rkN P Q p : Nat)] := fun d hd => by
    obtain ⟨p, hp, rfl⟩ := List.mem_map.mp hd
    exact ⟨p, hp, rfl⟩
  refine lc_run (items := prs P Q most) fullC fstD (by omega) (fun d hd P1 P0 k1 k0 => ?_) ?_
  · obtain ⟨p, hp, rfl⟩ := pin d hd
    try dsimp only [sSeq, sNil, sRet, sRetN, sExpr, sIf, sSet, sSetL, sAsg, sPar, sParL, sPar3, sAug, sBreak, sCont, sNo, sApp, sExt, sSetD, fIn, fRev, fDi, sPut, sSetK, fVar, fNm, fC, fOp, fUn, fCa, fCaL, fBo, fCh, fAnd, fOr, fNot, fAndV, fOrV, fNotV, fIf, fNil, fCons, fTup, fLst, fL, gI, gI0, gAdd, PD.gSub, gMul, gDiv, gMod, gPow, gNeg, gLt, gLe, gGt, gGe, gEq, gNe, eqS, gIsN, gNotN, gIn, gNotIn, D.seq, gIx, gIxC, fIxO, fIxOC, fLenO, olAt, Cell.ols, Cell.upd, putL, gSetOC, gAbs, gInt, gLen, gTuple, gList, gMax, gMin, gInts, gBls, iLst, PD.iTup, iRg1, iRg2, gNm, gsNil, gsCons, gTu, fCall, fCallM, fCallL, fCat, gCat, gCatT, fSl, fSlT, oNone, oSome, fGet, fGet2, dicAt, dKey, fSortIt, fYes, endsOf, endsM, wipeC, restoreC, keepC, List.getElem?_cons_zero, List.getElem?_cons_succ, List.set_cons_zero, List.set_cons_succ, List.length_cons, List.length_nil, List.getElem?_nil, Nat.beq, Nat.ble, Nat.blt, Nat.reduceAdd, Nat.reduceLeDiff, Nat.reduceLT, Nat.zero_add, Nat.reduceSucc, Nat.beq_eq]
    refine ifb (fun e => ?_) (fun e => ?_)
    · exact k1 (decide_eq_true e) _ rfl
    · exact k0 (decide_eq_false e) _ rfl
  rw [full_map]
  try dsimp only [sSeq, sNil, sRet, sRetN, sExpr, sIf, sSet, sSetL, sAsg, sPar, sParL, sPar3, sAug, sBreak, sCont, sNo, sApp, sExt, sSetD, fIn, fRev, fDi, sPut, sSetK, fVar, fNm, fC, fOp, fUn, fCa, fCaL, fBo, fCh, fAnd, fOr, fNot, fAndV, fOrV, fNotV, fIf, fNil, fCons, fTup, fLst, fL, gI, gI0, gAdd, PD.gSub, gMul, gDiv, gMod, gPow, gNeg, gLt, gLe, gGt, gGe, gEq, gNe, eqS, gIsN, gNotN, gIn, gNotIn, D.seq, gIx, gIxC, fIxO, fIxOC, fLenO, olAt, Cell.ols, Cell.upd, putL, gSetOC, gAbs, gInt, gLen, gTuple, gList, gMax, gMin, gInts, gBls, iLst, PD.iTup, iRg1, iRg2, gNm, gsNil, gsCons, gTu, fCall, fCallM, fCallL, fCat, gCat, gCatT, fSl, fSlT, oNone, oSome, fGet, fGet2, dicAt, dKey, fSortIt, fYes, endsOf, endsM, wipeC, restoreC, keepC, List.getElem?_cons_zero, List.getElem?_cons_succ, List.set_cons_zero, List.set_cons_succ, List.length_cons, List.length_nil, List.getElem?_nil, Nat.beq, Nat.ble, Nat.blt, Nat.reduceAdd, Nat.reduceLeDiff, Nat.reduceLT, Nat.zero_add, Nat.reduceSucc, Nat.beq_eq]
  refine ⟨fun i ρ => ∃ c10 c11, ρ = [.pl a hs2, .sh (.tup [.int P, .int Q]), .sh (.int most), .sh (.lst (prs P Q most)), .sh (.tup (natL (fullL P Q most))), .ol (natL (((lst Q most).take i).filter fun p => twice P Q p)), .un, .un, .un, .un, c10, c11, .un], ⟨_, _, rfl⟩, ?_, ?_⟩
  · rintro i d ρ hd ⟨c10, c11, rfl⟩
    obtain ⟨p, hp, rfl⟩ : ∃ p, (lst Q most)[i]? = some p ∧ d = .tup [.int (p : Int), .int (rkN P Q p : Nat)] := by
      have hd : ((lst Q most).map fun (p : Nat) => D.tup [.int (p : Int), .int (rkN P Q p : Nat)])[i]? = some d := hd
      rw [List.getElem?_map] at hd
      cases e : (lst Q most)[i]? with
      | none => rw [e] at hd; cases hd
      | some b => rw [e] at hd; exact ⟨b, rfl, (Option.some.inj hd).symm⟩
    obtain ⟨hlt, ed⟩ := List.getElem?_eq_some_iff.mp hp
    have ok := lst_ok (P := P) (show most ≤ 240 by omega) (List.mem_of_getElem? hp)
    obtain ⟨r1, r2, _, _⟩ := rk_spec (P := P) ok.1
    have hpp : (p : Int) * p = ((p * p : Nat) : Int) := by rw [Int.natCast_mul]
    have hq1 : p * p ≤ 240 * 240 := Nat.mul_le_mul (by omega) (by omega)
    have hq0 : 0 < p * p := Nat.mul_pos (by omega) (by omega)
    have etk : ((lst Q most).take (i + 1)).filter (fun p => twice P Q p) = ((lst Q most).take i).filter (fun p => twice P Q p) ++ (if twice P Q p = true then [p] else []) := by
      rw [List.take_succ_eq_append_getElem hlt, ed, List.filter_append]
      congr 1
      cases h : twice P Q p <;> simp [h]
    have sl : (((lst Q most).take i).filter fun p => twice P Q p).length ≤ most := Nat.le_trans (List.length_filter_le _ _) (by rw [List.length_take]; omega)
    have ltw := lrk_tw (P := P) ok.1
    dsimp only [sExt, sSeq, sNil, sRet, sRetN, sExpr, sIf, sSet, sSetL, sAsg, sPar, sParL, sPar3, sAug, sBreak, sCont, sNo, sApp, sExt, sSetD, fIn, fRev, fDi, sPut, sSetK, fVar, fNm, fC, fOp, fUn, fCa, fCaL, fBo, fCh, fAnd, fOr, fNot, fAndV, fOrV, fNotV, fIf, fNil, fCons, fTup, fLst, fL, gI, gI0, gAdd, PD.gSub, gMul, gDiv, gMod, gPow, gNeg, gLt, gLe, gGt, gGe, gEq, gNe, eqS, gIsN, gNotN, gIn, gNotIn, D.seq, gIx, gIxC, fIxO, fIxOC, fLenO, olAt, Cell.ols, Cell.upd, putL, gSetOC, gAbs, gInt, gLen, gTuple, gList, gMax, gMin, gInts, gBls, iLst, PD.iTup, iRg1, iRg2, gNm, gsNil, gsCons, gTu, fCall, fCallM, fCallL, fCat, gCat, gCatT, fSl, fSlT, oNone, oSome, fGet, fGet2, dicAt, dKey, fSortIt, fYes, endsOf, endsM, wipeC, restoreC, keepC, List.getElem?_cons_zero, List.getElem?_cons_succ, List.set_cons_zero, List.set_cons_succ, List.length_cons, List.length_nil, List.getElem?_nil, Nat.beq, Nat.ble, Nat.blt, Nat.reduceAdd, Nat.reduceLeDiff, Nat.reduceLT, Nat.zero_add, Nat.reduceSucc, Nat.beq_eq]
    rw [etk]
    unfold eqS at ltw
    refine ⟨PD.MulOk.l (by omega) (by omega), P, Q, (p : Int) * p, rkN P Q p, hb, by rw [hpp]; omega, by rw [hpp]; omega, by omega, rfl, ?_⟩
    generalize lrk P Q ((p : Int) * p) (rkN P Q p) = dv at ltw ⊢
    rw [ltw]
    try dsimp only [sSeq, sNil, sRet, sRetN, sExpr, sIf, sSet, sSetL, sAsg, sPar, sParL, sPar3, sAug, sBreak, sCont, sNo, sApp, sExt, sSetD, fIn, fRev, fDi, sPut, sSetK, fVar, fNm, fC, fOp, fUn, fCa, fCaL, fBo, fCh, fAnd, fOr, fNot, fAndV, fOrV, fNotV, fIf, fNil, fCons, fTup, fLst, fL, gI, gI0, gAdd, PD.gSub, gMul, gDiv, gMod, gPow, gNeg, gLt, gLe, gGt, gGe, gEq, gNe, eqS, gIsN, gNotN, gIn, gNotIn, D.seq, gIx, gIxC, fIxO, fIxOC, fLenO, olAt, Cell.ols, Cell.upd, putL, gSetOC, gAbs, gInt, gLen, gTuple, gList, gMax, gMin, gInts, gBls, iLst, PD.iTup, iRg1, iRg2, gNm, gsNil, gsCons, gTu, fCall, fCallM, fCallL, fCat, gCat, gCatT, fSl, fSlT, oNone, oSome, fGet, fGet2, dicAt, dKey, fSortIt, fYes, endsOf, endsM, wipeC, restoreC, keepC, List.getElem?_cons_zero, List.getElem?_cons_succ, List.set_cons_zero, List.set_cons_succ, List.length_cons, List.length_nil, List.getElem?_nil, Nat.beq, Nat.ble, Nat.blt, Nat.reduceAdd, Nat.reduceLeDiff, Nat.reduceLT, Nat.zero_add, Nat.reduceSucc, Nat.beq_eq]
    cases twice P Q p with
    | true =>
      refine ⟨by unfold natL; rw [List.length_map]; show _ + 1 ≤ _; omega, .sh (.int (p : Int)), .sh (.int (rkN P Q p : Nat)), ?_⟩
      unfold natL
      rw [if_pos rfl, List.map_append]
      rfl
    | false =>
      refine ⟨by unfold natL; rw [List.length_map]; show _ + 0 ≤ _; omega, .sh (.int (p : Int)), .sh (.int (rkN P Q p : Nat)), ?_⟩
      unfold natL
      rw [if_neg Bool.false_ne_true, List.append_nil, List.append_nil]
  rintro ρ ⟨c10, c11, rfl⟩
  rw [List.length_map, List.take_length]
  have htw : ((lst Q most).filter fun p => twice P Q p) = twL P Q most := rfl
  rw [htw]
  obtain ⟨g1, g2⟩ := And.intro (full_small (P := P) (Q := Q) (most := most) (by omega)) (tw_small (P := P) (Q := Q) (most := most) (by omega))
  have fl := full_len P Q most
  have tl := tw_len P Q most
  try dsimp only [sSeq, sNil, sRet, sRetN, sExpr, sIf, sSet, sSetL, sAsg, sPar, sParL, sPar3, sAug, sBreak, sCont, sNo, sApp, sExt, sSetD, fIn, fRev, fDi, sPut, sSetK, fVar, fNm, fC, fOp, fUn, fCa, fCaL, fBo, fCh, fAnd, fOr, fNot, fAndV, fOrV, fNotV, fIf, fNil, fCons, fTup, fLst, fL, gI, gI0, gAdd, PD.gSub, gMul, gDiv, gMod, gPow, gNeg, gLt, gLe, gGt, gGe, gEq, gNe, eqS, gIsN, gNotN, gIn, gNotIn, D.seq, gIx, gIxC, fIxO, fIxOC, fLenO, olAt, Cell.ols, Cell.upd, putL, gSetOC, gAbs, gInt, gLen, gTuple, gList, gMax, gMin, gInts, gBls, iLst, PD.iTup, iRg1, iRg2, gNm, gsNil, gsCons, gTu, fCall, fCallM, fCallL, fCat, gCat, gCatT, fSl, fSlT, oNone, oSome, fGet, fGet2, dicAt, dKey, fSortIt, fYes, endsOf, endsM, wipeC, restoreC, keepC, List.getElem?_cons_zero, List.getElem?_cons_succ, List.set_cons_zero, List.set_cons_succ, List.length_cons, List.length_nil, List.getElem?_nil, Nat.beq, Nat.ble, Nat.blt, Nat.reduceAdd, Nat.reduceLeDiff, Nat.reduceLT, Nat.zero_add, Nat.reduceSucc, Nat.beq_eq]
  refine ⟨P, Q, most, hb, t1, by omega, rfl, ?_⟩
  try dsimp only [sSeq, sNil, sRet, sRetN, sExpr, sIf, sSet, sSetL, sAsg, sPar, sParL, sPar3, sAug, sBreak, sCont, sNo, sApp, sExt, sSetD, fIn, fRev, fDi, sPut, sSetK, fVar, fNm, fC, fOp, fUn, fCa, fCaL, fBo, fCh, fAnd, fOr, fNot, fAndV, fOrV, fNotV, fIf, fNil, fCons, fTup, fLst, fL, gI, gI0, gAdd, PD.gSub, gMul, gDiv, gMod, gPow, gNeg, gLt, gLe, gGt, gGe, gEq, gNe, eqS, gIsN, gNotN, gIn, gNotIn, D.seq, gIx, gIxC, fIxO, fIxOC, fLenO, olAt, Cell.ols, Cell.upd, putL, gSetOC, gAbs, gInt, gLen, gTuple, gList, gMax, gMin, gInts, gBls, iLst, PD.iTup, iRg1, iRg2, gNm, gsNil, gsCons, gTu, fCall, fCallM, fCallL, fCat, gCat, gCatT, fSl, fSlT, oNone, oSome, fGet, fGet2, dicAt, dKey, fSortIt, fYes, endsOf, endsM, wipeC, restoreC, keepC, List.getElem?_cons_zero, List.getElem?_cons_succ, List.set_cons_zero, List.set_cons_succ, List.length_cons, List.length_nil, List.getElem?_nil, Nat.beq, Nat.ble, Nat.blt, Nat.reduceAdd, Nat.reduceLeDiff, Nat.reduceLT, Nat.zero_add, Nat.reduceSucc, Nat.beq_eq]
  refine ⟨P, Q, most, hb, t1, by omega, rfl, ?_⟩
  try dsimp only [sSeq, sNil, sRet, sRetN, sExpr, sIf, sSet, sSetL, sAsg, sPar, sParL, sPar3, sAug, sBreak, sCont, sNo, sApp, sExt, sSetD, fIn, fRev, fDi, sPut, sSetK, fVar, fNm, fC, fOp, fUn, fCa, fCaL, fBo, fCh, fAnd, fOr, fNot, fAndV, fOrV, fNotV, fIf, fNil, fCons, fTup, fLst, fL, gI, gI0, gAdd, PD.gSub, gMul, gDiv, gMod, gPow, gNeg, gLt, gLe, gGt, gGe, gEq, gNe, eqS, gIsN, gNotN, gIn, gNotIn, D.seq, gIx, gIxC, fIxO, fIxOC, fLenO, olAt, Cell.ols, Cell.upd, putL, gSetOC, gAbs, gInt, gLen, gTuple, gList, gMax, gMin, gInts, gBls, iLst, PD.iTup, iRg1, iRg2, gNm, gsNil, gsCons, gTu, fCall, fCallM, fCallL, fCat, gCat, gCatT, fSl, fSlT, oNone, oSome, fGet, fGet2, dicAt, dKey, fSortIt, fYes, endsOf, endsM, wipeC, restoreC, keepC, List.getElem?_cons_zero, List.getElem?_cons_succ, List.set_cons_zero, List.set_cons_succ, List.length_cons, List.length_nil, List.getElem?_nil, Nat.beq, Nat.ble, Nat.blt, Nat.reduceAdd, Nat.reduceLeDiff, Nat.reduceLT, Nat.zero_add, Nat.reduceSucc, Nat.beq_eq]
  refine repr_two g1 g2 (by omega) (by omega) ?_
  try dsimp only [sSeq, sNil, sRet, sRetN, sExpr, sIf, sSet, sSetL, sAsg, sPar, sParL, sPar3, sAug, sBreak, sCont, sNo, sApp, sExt, sSetD, fIn, fRev, fDi, sPut, sSetK, fVar, fNm, fC, fOp, fUn, fCa, fCaL, fBo, fCh, fAnd, fOr, fNot, fAndV, fOrV, fNotV, fIf, fNil, fCons, fTup, fLst, fL, gI, gI0, gAdd, PD.gSub, gMul, gDiv, gMod, gPow, gNeg, gLt, gLe, gGt, gGe, gEq, gNe, eqS, gIsN, gNotN, gIn, gNotIn, D.seq, gIx, gIxC, fIxO, fIxOC, fLenO, olAt, Cell.ols, Cell.upd, putL, gSetOC, gAbs, gInt, gLen, gTuple, gList, gMax, gMin, gInts, gBls, iLst, PD.iTup, iRg1, iRg2, gNm, gsNil, gsCons, gTu, fCall, fCallM, fCallL, fCat, gCat, gCatT, fSl, fSlT, oNone, oSome, fGet, fGet2, dicAt, dKey, fSortIt, fYes, endsOf, endsM, wipeC, restoreC, keepC, List.getElem?_cons_zero, List.getElem?_cons_succ, List.set_cons_zero, List.set_cons_succ, List.length_cons, List.length_nil, List.getElem?_nil, Nat.beq, Nat.ble, Nat.blt, Nat.reduceAdd, Nat.reduceLeDiff, Nat.reduceLT, Nat.zero_add, Nat.reduceSucc, Nat.beq_eq]
  refine repr_two g1 g2 (by omega) (by omega) ?_
  try dsimp only [sSeq, sNil, sRet, sRetN, sExpr, sIf, sSet, sSetL, sAsg, sPar, sParL, sPar3, sAug, sBreak, sCont, sNo, sApp, sExt, sSetD, fIn, fRev, fDi, sPut, sSetK, fVar, fNm, fC, fOp, fUn, fCa, fCaL, fBo, fCh, fAnd, fOr, fNot, fAndV, fOrV, fNotV, fIf, fNil, fCons, fTup, fLst, fL, gI, gI0, gAdd, PD.gSub, gMul, gDiv, gMod, gPow, gNeg, gLt, gLe, gGt, gGe, gEq, gNe, eqS, gIsN, gNotN, gIn, gNotIn, D.seq, gIx, gIxC, fIxO, fIxOC, fLenO, olAt, Cell.ols, Cell.upd, putL, gSetOC, gAbs, gInt, gLen, gTuple, gList, gMax, gMin, gInts, gBls, iLst, PD.iTup, iRg1, iRg2, gNm, gsNil, gsCons, gTu, fCall, fCallM, fCallL, fCat, gCat, gCatT, fSl, fSlT, oNone, oSome, fGet, fGet2, dicAt, dKey, fSortIt, fYes, endsOf, endsM, wipeC, restoreC, keepC, List.getElem?_cons_zero, List.getElem?_cons_succ, List.set_cons_zero, List.set_cons_succ, List.length_cons, List.length_nil, List.getElem?_nil, Nat.beq, Nat.ble, Nat.blt, Nat.reduceAdd, Nat.reduceLeDiff, Nat.reduceLT, Nat.zero_add, Nat.reduceSucc, Nat.beq_eq]
  refine ne_same ?_
  refine fLc_i ?_
  try dsimp only [sSeq, sNil, sRet, sRetN, sExpr, sIf, sSet, sSetL, sAsg, sPar, sParL, sPar3, sAug, sBreak, sCont, sNo, sApp, sExt, sSetD, fIn, fRev, fDi, sPut, sSetK, fVar, fNm, fC, fOp, fUn, fCa, fCaL, fBo, fCh, fAnd, fOr, fNot, fAndV, fOrV, fNotV, fIf, fNil, fCons, fTup, fLst, fL, gI, gI0, gAdd, PD.gSub, gMul, gDiv, gMod, gPow, gNeg, gLt, gLe, gGt, gGe, gEq, gNe, eqS, gIsN, gNotN, gIn, gNotIn, D.seq, gIx, gIxC, fIxO, fIxOC, fLenO, olAt, Cell.ols, Cell.upd, putL, gSetOC, gAbs, gInt, gLen, gTuple, gList, gMax, gMin, gInts, gBls, iLst, PD.iTup, iRg1, iRg2, gNm, gsNil, gsCons, gTu, fCall, fCallM, fCallL, fCat, gCat, gCatT, fSl, fSlT, oNone, oSome, fGet, fGet2, dicAt, dKey, fSortIt, fYes, endsOf, endsM, wipeC, restoreC, keepC, List.getElem?_cons_zero, List.getElem?_cons_succ, List.set_cons_zero, List.set_cons_succ, List.length_cons, List.length_nil, List.getElem?_nil, Nat.beq, Nat.ble, Nat.blt, Nat.reduceAdd, Nat.reduceLeDiff, Nat.reduceLT, Nat.zero_add, Nat.reduceSucc, Nat.beq_eq]
  refine lc_run (items := prs P Q most) (fun _ => true) sndD (by omega) (fun d hd P1 P0 k1 k0 => ?_) ?_
  · obtain ⟨p, hp, rfl⟩ := pin d hd
    try dsimp only [sSeq, sNil, sRet, sRetN, sExpr, sIf, sSet, sSetL, sAsg, sPar, sParL, sPar3, sAug, sBreak, sCont, sNo, sApp, sExt, sSetD, fIn, fRev, fDi, sPut, sSetK, fVar, fNm, fC, fOp, fUn, fCa, fCaL, fBo, fCh, fAnd, fOr, fNot, fAndV, fOrV, fNotV, fIf, fNil, fCons, fTup, fLst, fL, gI, gI0, gAdd, PD.gSub, gMul, gDiv, gMod, gPow, gNeg, gLt, gLe, gGt, gGe, gEq, gNe, eqS, gIsN, gNotN, gIn, gNotIn, D.seq, gIx, gIxC, fIxO, fIxOC, fLenO, olAt, Cell.ols, Cell.upd, putL, gSetOC, gAbs, gInt, gLen, gTuple, gList, gMax, gMin, gInts, gBls, iLst, PD.iTup, iRg1, iRg2, gNm, gsNil, gsCons, gTu, fCall, fCallM, fCallL, fCat, gCat, gCatT, fSl, fSlT, oNone, oSome, fGet, fGet2, dicAt, dKey, fSortIt, fYes, endsOf, endsM, wipeC, restoreC, keepC, List.getElem?_cons_zero, List.getElem?_cons_succ, List.set_cons_zero, List.set_cons_succ, List.length_cons, List.length_nil, List.getElem?_nil, Nat.beq, Nat.ble, Nat.blt, Nat.reduceAdd, Nat.reduceLeDiff, Nat.reduceLT, Nat.zero_add, Nat.reduceSucc, Nat.beq_eq]
    rw [if_pos rfl]
    exact k1 rfl _ rfl
  rw [snd_map]
  try dsimp only [sSeq, sNil, sRet, sRetN, sExpr, sIf, sSet, sSetL, sAsg, sPar, sParL, sPar3, sAug, sBreak, sCont, sNo, sApp, sExt, sSetD, fIn, fRev, fDi, sPut, sSetK, fVar, fNm, fC, fOp, fUn, fCa, fCaL, fBo, fCh, fAnd, fOr, fNot, fAndV, fOrV, fNotV, fIf, fNil, fCons, fTup, fLst, fL, gI, gI0, gAdd, PD.gSub, gMul, gDiv, gMod, gPow, gNeg, gLt, gLe, gGt, gGe, gEq, gNe, eqS, gIsN, gNotN, gIn, gNotIn, D.seq, gIx, gIxC, fIxO, fIxOC, fLenO, olAt, Cell.ols, Cell.upd, putL, gSetOC, gAbs, gInt, gLen, gTuple, gList, gMax, gMin, gInts, gBls, iLst, PD.iTup, iRg1, iRg2, gNm, gsNil, gsCons, gTu, fCall, fCallM, fCallL, fCat, gCat, gCatT, fSl, fSlT, oNone, oSome, fGet, fGet2, dicAt, dKey, fSortIt, fYes, endsOf, endsM, wipeC, restoreC, keepC, List.getElem?_cons_zero, List.getElem?_cons_succ, List.set_cons_zero, List.set_cons_succ, List.length_cons, List.length_nil, List.getElem?_nil, Nat.beq, Nat.ble, Nat.blt, Nat.reduceAdd, Nat.reduceLeDiff, Nat.reduceLT, Nat.zero_add, Nat.reduceSucc, Nat.beq_eq]
  refine fLc_i ?_
  try dsimp only [sSeq, sNil, sRet, sRetN, sExpr, sIf, sSet, sSetL, sAsg, sPar, sParL, sPar3, sAug, sBreak, sCont, sNo, sApp, sExt, sSetD, fIn, fRev, fDi, sPut, sSetK, fVar, fNm, fC, fOp, fUn, fCa, fCaL, fBo, fCh, fAnd, fOr, fNot, fAndV, fOrV, fNotV, fIf, fNil, fCons, fTup, fLst, fL, gI, gI0, gAdd, PD.gSub, gMul, gDiv, gMod, gPow, gNeg, gLt, gLe, gGt, gGe, gEq, gNe, eqS, gIsN, gNotN, gIn, gNotIn, D.seq, gIx, gIxC, fIxO, fIxOC, fLenO, olAt, Cell.ols, Cell.upd, putL, gSetOC, gAbs, gInt, gLen, gTuple, gList, gMax, gMin, gInts, gBls, iLst, PD.iTup, iRg1, iRg2, gNm, gsNil, gsCons, gTu, fCall, fCallM, fCallL, fCat, gCat, gCatT, fSl, fSlT, oNone, oSome, fGet, fGet2, dicAt, dKey, fSortIt, fYes, endsOf, endsM, wipeC, restoreC, keepC, List.getElem?_cons_zero, List.getElem?_cons_succ, List.set_cons_zero, List.set_cons_succ, List.length_cons, List.length_nil, List.getElem?_nil, Nat.beq, Nat.ble, Nat.blt, Nat.reduceAdd, Nat.reduceLeDiff, Nat.reduceLT, Nat.zero_add, Nat.reduceSucc, Nat.beq_eq]
  rw [pl]
  refine ⟨RgOk.of (by decide) (by decide), RgOk.of (by omega) (by omega), ?_⟩
  obtain ⟨fi, hfi, hfw⟩ := fw_ex P Q most
  have ecnt : (((lst Q most).length : Int) + 3 - 2).toNat = (lst Q most).length + 1 := by omega
  rw [ecnt]
  refine lc_run (items := rgD 2 ((lst Q most).length + 1)) (notC P Q most) (fun d => d) (by rw [rgD_len]; omega) (fun d hd P1 P0 k1 k0 => ?_) ?_
  · obtain ⟨i, hi⟩ := List.mem_iff_getElem?.mp hd
    obtain ⟨hi, rfl⟩ := rg_get hi
    have ei : (2 : Int) + (i : Nat) = ((i + 2 : Nat) : Int) := by omega
    rw [ei] at k1 k0 ⊢
    try dsimp only [sSeq, sNil, sRet, sRetN, sExpr, sIf, sSet, sSetL, sAsg, sPar, sParL, sPar3, sAug, sBreak, sCont, sNo, sApp, sExt, sSetD, fIn, fRev, fDi, sPut, sSetK, fVar, fNm, fC, fOp, fUn, fCa, fCaL, fBo, fCh, fAnd, fOr, fNot, fAndV, fOrV, fNotV, fIf, fNil, fCons, fTup, fLst, fL, gI, gI0, gAdd, PD.gSub, gMul, gDiv, gMod, gPow, gNeg, gLt, gLe, gGt, gGe, gEq, gNe, eqS, gIsN, gNotN, gIn, gNotIn, D.seq, gIx, gIxC, fIxO, fIxOC, fLenO, olAt, Cell.ols, Cell.upd, putL, gSetOC, gAbs, gInt, gLen, gTuple, gList, gMax, gMin, gInts, gBls, iLst, PD.iTup, iRg1, iRg2, gNm, gsNil, gsCons, gTu, fCall, fCallM, fCallL, fCat, gCat, gCatT, fSl, fSlT, oNone, oSome, fGet, fGet2, dicAt, dKey, fSortIt, fYes, endsOf, endsM, wipeC, restoreC, keepC, List.getElem?_cons_zero, List.getElem?_cons_succ, List.set_cons_zero, List.set_cons_succ, List.length_cons, List.length_nil, List.getElem?_nil, Nat.beq, Nat.ble, Nat.blt, Nat.reduceAdd, Nat.reduceLeDiff, Nat.reduceLT, Nat.zero_add, Nat.reduceSucc, Nat.beq_eq]
    refine ⟨flat_natL _, ?_⟩
    rw [in_natL]
    refine ifB (fun e => k1 e _ rfl) (fun e => k0 e _ rfl)
  obtain ⟨tl, htl⟩ := due_head hfi
  rw [htl]
  try dsimp only [sSeq, sNil, sRet, sRetN, sExpr, sIf, sSet, sSetL, sAsg, sPar, sParL, sPar3, sAug, sBreak, sCont, sNo, sApp, sExt, sSetD, fIn, fRev, fDi, sPut, sSetK, fVar, fNm, fC, fOp, fUn, fCa, fCaL, fBo, fCh, fAnd, fOr, fNot, fAndV, fOrV, fNotV, fIf, fNil, fCons, fTup, fLst, fL, gI, gI0, gAdd, PD.gSub, gMul, gDiv, gMod, gPow, gNeg, gLt, gLe, gGt, gGe, gEq, gNe, eqS, gIsN, gNotN, gIn, gNotIn, D.seq, gIx, gIxC, fIxO, fIxOC, fLenO, olAt, Cell.ols, Cell.upd, putL, gSetOC, gAbs, gInt, gLen, gTuple, gList, gMax, gMin, gInts, gBls, iLst, PD.iTup, iRg1, iRg2, gNm, gsNil, gsCons, gTu, fCall, fCallM, fCallL, fCat, gCat, gCatT, fSl, fSlT, oNone, oSome, fGet, fGet2, dicAt, dKey, fSortIt, fYes, endsOf, endsM, wipeC, restoreC, keepC, List.getElem?_cons_zero, List.getElem?_cons_succ, List.set_cons_zero, List.set_cons_succ, List.length_cons, List.length_nil, List.getElem?_nil, Nat.beq, Nat.ble, Nat.blt, Nat.reduceAdd, Nat.reduceLeDiff, Nat.reduceLT, Nat.zero_add, Nat.reduceSucc, Nat.beq_eq]
  have hf2 : fi + 2 ≤ 202 := by
    have := fw_bound hfw.2.2
    omega
  refine ⟨P, Q, most, hb, t1, by omega, rfl, fun f hf => ?_⟩
  obtain rfl := fw_uniq hf hfw
  refine repr_nat (by omega) ?_
  try dsimp only [sSeq, sNil, sRet, sRetN, sExpr, sIf, sSet, sSetL, sAsg, sPar, sParL, sPar3, sAug, sBreak, sCont, sNo, sApp, sExt, sSetD, fIn, fRev, fDi, sPut, sSetK, fVar, fNm, fC, fOp, fUn, fCa, fCaL, fBo, fCh, fAnd, fOr, fNot, fAndV, fOrV, fNotV, fIf, fNil, fCons, fTup, fLst, fL, gI, gI0, gAdd, PD.gSub, gMul, gDiv, gMod, gPow, gNeg, gLt, gLe, gGt, gGe, gEq, gNe, eqS, gIsN, gNotN, gIn, gNotIn, D.seq, gIx, gIxC, fIxO, fIxOC, fLenO, olAt, Cell.ols, Cell.upd, putL, gSetOC, gAbs, gInt, gLen, gTuple, gList, gMax, gMin, gInts, gBls, iLst, PD.iTup, iRg1, iRg2, gNm, gsNil, gsCons, gTu, fCall, fCallM, fCallL, fCat, gCat, gCatT, fSl, fSlT, oNone, oSome, fGet, fGet2, dicAt, dKey, fSortIt, fYes, endsOf, endsM, wipeC, restoreC, keepC, List.getElem?_cons_zero, List.getElem?_cons_succ, List.set_cons_zero, List.set_cons_succ, List.length_cons, List.length_nil, List.getElem?_nil, Nat.beq, Nat.ble, Nat.blt, Nat.reduceAdd, Nat.reduceLeDiff, Nat.reduceLT, Nat.zero_add, Nat.reduceSucc, Nat.beq_eq]
  refine repr_nat (by omega) ?_
  try dsimp only [sSeq, sNil, sRet, sRetN, sExpr, sIf, sSet, sSetL, sAsg, sPar, sParL, sPar3, sAug, sBreak, sCont, sNo, sApp, sExt, sSetD, fIn, fRev, fDi, sPut, sSetK, fVar, fNm, fC, fOp, fUn, fCa, fCaL, fBo, fCh, fAnd, fOr, fNot, fAndV, fOrV, fNotV, fIf, fNil, fCons, fTup, fLst, fL, gI, gI0, gAdd, PD.gSub, gMul, gDiv, gMod, gPow, gNeg, gLt, gLe, gGt, gGe, gEq, gNe, eqS, gIsN, gNotN, gIn, gNotIn, D.seq, gIx, gIxC, fIxO, fIxOC, fLenO, olAt, Cell.ols, Cell.upd, putL, gSetOC, gAbs, gInt, gLen, gTuple, gList, gMax, gMin, gInts, gBls, iLst, PD.iTup, iRg1, iRg2, gNm, gsNil, gsCons, gTu, fCall, fCallM, fCallL, fCat, gCat, gCatT, fSl, fSlT, oNone, oSome, fGet, fGet2, dicAt, dKey, fSortIt, fYes, endsOf, endsM, wipeC, restoreC, keepC, List.getElem?_cons_zero, List.getElem?_cons_succ, List.set_cons_zero, List.set_cons_succ, List.length_cons, List.length_nil, List.getElem?_nil, Nat.beq, Nat.ble, Nat.blt, Nat.reduceAdd, Nat.reduceLeDiff, Nat.reduceLT, Nat.zero_add, Nat.reduceSucc, Nat.beq_eq]
  refine ne_same ?_
  refine fLc_i ?_
  try dsimp only [sSeq, sNil, sRet, sRetN, sExpr, sIf, sSet, sSetL, sAsg, sPar, sParL, sPar3, sAug, sBreak, sCont, sNo, sApp, sExt, sSetD, fIn, fRev, fDi, sPut, sSetK, fVar, fNm, fC, fOp, fUn, fCa, fCaL, fBo, fCh, fAnd, fOr, fNot, fAndV, fOrV, fNotV, fIf, fNil, fCons, fTup, fLst, fL, gI, gI0, gAdd, PD.gSub, gMul, gDiv, gMod, gPow, gNeg, gLt, gLe, gGt, gGe, gEq, gNe, eqS, gIsN, gNotN, gIn, gNotIn, D.seq, gIx, gIxC, fIxO, fIxOC, fLenO, olAt, Cell.ols, Cell.upd, putL, gSetOC, gAbs, gInt, gLen, gTuple, gList, gMax, gMin, gInts, gBls, iLst, PD.iTup, iRg1, iRg2, gNm, gsNil, gsCons, gTu, fCall, fCallM, fCallL, fCat, gCat, gCatT, fSl, fSlT, oNone, oSome, fGet, fGet2, dicAt, dKey, fSortIt, fYes, endsOf, endsM, wipeC, restoreC, keepC, List.getElem?_cons_zero, List.getElem?_cons_succ, List.set_cons_zero, List.set_cons_succ, List.length_cons, List.length_nil, List.getElem?_nil, Nat.beq, Nat.ble, Nat.blt, Nat.reduceAdd, Nat.reduceLeDiff, Nat.reduceLT, Nat.zero_add, Nat.reduceSucc, Nat.beq_eq]
  refine ⟨P, Q, most, hb, t1, by omega, rfl, ?_⟩
  try dsimp only [sSeq, sNil, sRet, sRetN, sExpr, sIf, sSet, sSetL, sAsg, sPar, sParL, sPar3, sAug, sBreak, sCont, sNo, sApp, sExt, sSetD, fIn, fRev, fDi, sPut, sSetK, fVar, fNm, fC, fOp, fUn, fCa, fCaL, fBo, fCh, fAnd, fOr, fNot, fAndV, fOrV, fNotV, fIf, fNil, fCons, fTup, fLst, fL, gI, gI0, gAdd, PD.gSub, gMul, gDiv, gMod, gPow, gNeg, gLt, gLe, gGt, gGe, gEq, gNe, eqS, gIsN, gNotN, gIn, gNotIn, D.seq, gIx, gIxC, fIxO, fIxOC, fLenO, olAt, Cell.ols, Cell.upd, putL, gSetOC, gAbs, gInt, gLen, gTuple, gList, gMax, gMin, gInts, gBls, iLst, PD.iTup, iRg1, iRg2, gNm, gsNil, gsCons, gTu, fCall, fCallM, fCallL, fCat, gCat, gCatT, fSl, fSlT, oNone, oSome, fGet, fGet2, dicAt, dKey, fSortIt, fYes, endsOf, endsM, wipeC, restoreC, keepC, List.getElem?_cons_zero, List.getElem?_cons_succ, List.set_cons_zero, List.set_cons_succ, List.length_cons, List.length_nil, List.getElem?_nil, Nat.beq, Nat.ble, Nat.blt, Nat.reduceAdd, Nat.reduceLeDiff, Nat.reduceLT, Nat.zero_add, Nat.reduceSucc, Nat.beq_eq]
  refine lc_run (items := prs P Q most) fullC fstD (by omega) (fun d hd P1 P0 k1 k0 => ?_) ?_
  · obtain ⟨p, hp, rfl⟩ := pin d hd
    try dsimp only [sSeq, sNil, sRet, sRetN, sExpr, sIf, sSet, sSetL, sAsg, sPar, sParL, sPar3, sAug, sBreak, sCont, sNo, sApp, sExt, sSetD, fIn, fRev, fDi, sPut, sSetK, fVar, fNm, fC, fOp, fUn, fCa, fCaL, fBo, fCh, fAnd, fOr, fNot, fAndV, fOrV, fNotV, fIf, fNil, fCons, fTup, fLst, fL, gI, gI0, gAdd, PD.gSub, gMul, gDiv, gMod, gPow, gNeg, gLt, gLe, gGt, gGe, gEq, gNe, eqS, gIsN, gNotN, gIn, gNotIn, D.seq, gIx, gIxC, fIxO, fIxOC, fLenO, olAt, Cell.ols, Cell.upd, putL, gSetOC, gAbs, gInt, gLen, gTuple, gList, gMax, gMin, gInts, gBls, iLst, PD.iTup, iRg1, iRg2, gNm, gsNil, gsCons, gTu, fCall, fCallM, fCallL, fCat, gCat, gCatT, fSl, fSlT, oNone, oSome, fGet, fGet2, dicAt, dKey, fSortIt, fYes, endsOf, endsM, wipeC, restoreC, keepC, List.getElem?_cons_zero, List.getElem?_cons_succ, List.set_cons_zero, List.set_cons_succ, List.length_cons, List.length_nil, List.getElem?_nil, Nat.beq, Nat.ble, Nat.blt, Nat.reduceAdd, Nat.reduceLeDiff, Nat.reduceLT, Nat.zero_add, Nat.reduceSucc, Nat.beq_eq]
    refine ifb (fun e => ?_) (fun e => ?_)
    · exact k1 (decide_eq_true e) _ rfl
    · exact k0 (decide_eq_false e) _ rfl
  rw [full_map]
  try dsimp only [sSeq, sNil, sRet, sRetN, sExpr, sIf, sSet, sSetL, sAsg, sPar, sParL, sPar3, sAug, sBreak, sCont, sNo, sApp, sExt, sSetD, fIn, fRev, fDi, sPut, sSetK, fVar, fNm, fC, fOp, fUn, fCa, fCaL, fBo, fCh, fAnd, fOr, fNot, fAndV, fOrV, fNotV, fIf, fNil, fCons, fTup, fLst, fL, gI, gI0, gAdd, PD.gSub, gMul, gDiv, gMod, gPow, gNeg, gLt, gLe, gGt, gGe, gEq, gNe, eqS, gIsN, gNotN, gIn, gNotIn, D.seq, gIx, gIxC, fIxO, fIxOC, fLenO, olAt, Cell.ols, Cell.upd, putL, gSetOC, gAbs, gInt, gLen, gTuple, gList, gMax, gMin, gInts, gBls, iLst, PD.iTup, iRg1, iRg2, gNm, gsNil, gsCons, gTu, fCall, fCallM, fCallL, fCat, gCat, gCatT, fSl, fSlT, oNone, oSome, fGet, fGet2, dicAt, dKey, fSortIt, fYes, endsOf, endsM, wipeC, restoreC, keepC, List.getElem?_cons_zero, List.getElem?_cons_succ, List.set_cons_zero, List.set_cons_succ, List.length_cons, List.length_nil, List.getElem?_nil, Nat.beq, Nat.ble, Nat.blt, Nat.reduceAdd, Nat.reduceLeDiff, Nat.reduceLT, Nat.zero_add, Nat.reduceSucc, Nat.beq_eq]
  obtain ⟨o1, o2⟩ := eq_full (fullL P Q most)
  refine ⟨o1, ?_⟩
  rw [o2]
  refine ifF ?_
  try dsimp only [sSeq, sNil, sRet, sRetN, sExpr, sIf, sSet, sSetL, sAsg, sPar, sParL, sPar3, sAug, sBreak, sCont, sNo, sApp, sExt, sSetD, fIn, fRev, fDi, sPut, sSetK, fVar, fNm, fC, fOp, fUn, fCa, fCaL, fBo, fCh, fAnd, fOr, fNot, fAndV, fOrV, fNotV, fIf, fNil, fCons, fTup, fLst, fL, gI, gI0, gAdd, PD.gSub, gMul, gDiv, gMod, gPow, gNeg, gLt, gLe, gGt, gGe, gEq, gNe, eqS, gIsN, gNotN, gIn, gNotIn, D.seq, gIx, gIxC, fIxO, fIxOC, fLenO, olAt, Cell.ols, Cell.upd, putL, gSetOC, gAbs, gInt, gLen, gTuple, gList, gMax, gMin, gInts, gBls, iLst, PD.iTup, iRg1, iRg2, gNm, gsNil, gsCons, gTu, fCall, fCallM, fCallL, fCat, gCat, gCatT, fSl, fSlT, oNone, oSome, fGet, fGet2, dicAt, dKey, fSortIt, fYes, endsOf, endsM, wipeC, restoreC, keepC, List.getElem?_cons_zero, List.getElem?_cons_succ, List.set_cons_zero, List.set_cons_succ, List.length_cons, List.length_nil, List.getElem?_nil, Nat.beq, Nat.ble, Nat.blt, Nat.reduceAdd, Nat.reduceLeDiff, Nat.reduceLT, Nat.zero_add, Nat.reduceSucc, Nat.beq_eq]
  refine ⟨hh2, 40, rfl, by decide, by decide, fun hs3 w hh3 w1 w2 => ?_⟩
  obtain ⟨wide, hwide, x1, x2⟩ : ∃ wide : Nat, (most : Int) + w = (wide : Int) ∧ most ≤ wide ∧ wide ≤ 240 := ⟨((most : Int) + w).toNat, by omega, by omega, by omega⟩
  try dsimp only [sSeq, sNil, sRet, sRetN, sExpr, sIf, sSet, sSetL, sAsg, sPar, sParL, sPar3, sAug, sBreak, sCont, sNo, sApp, sExt, sSetD, fIn, fRev, fDi, sPut, sSetK, fVar, fNm, fC, fOp, fUn, fCa, fCaL, fBo, fCh, fAnd, fOr, fNot, fAndV, fOrV, fNotV, fIf, fNil, fCons, fTup, fLst, fL, gI, gI0, gAdd, PD.gSub, gMul, gDiv, gMod, gPow, gNeg, gLt, gLe, gGt, gGe, gEq, gNe, eqS, gIsN, gNotN, gIn, gNotIn, D.seq, gIx, gIxC, fIxO, fIxOC, fLenO, olAt, Cell.ols, Cell.upd, putL, gSetOC, gAbs, gInt, gLen, gTuple, gList, gMax, gMin, gInts, gBls, iLst, PD.iTup, iRg1, iRg2, gNm, gsNil, gsCons, gTu, fCall, fCallM, fCallL, fCat, gCat, gCatT, fSl, fSlT, oNone, oSome, fGet, fGet2, dicAt, dKey, fSortIt, fYes, endsOf, endsM, wipeC, restoreC, keepC, List.getElem?_cons_zero, List.getElem?_cons_succ, List.set_cons_zero, List.set_cons_succ, List.length_cons, List.length_nil, List.getElem?_nil, Nat.beq, Nat.ble, Nat.blt, Nat.reduceAdd, Nat.reduceLeDiff, Nat.reduceLT, Nat.zero_add, Nat.reduceSucc, Nat.beq_eq]
  rw [hwide]
  refine fLc_i ?_
  try dsimp only [sSeq, sNil, sRet, sRetN, sExpr, sIf, sSet, sSetL, sAsg, sPar, sParL, sPar3, sAug, sBreak, sCont, sNo, sApp, sExt, sSetD, fIn, fRev, fDi, sPut, sSetK, fVar, fNm, fC, fOp, fUn, fCa, fCaL, fBo, fCh, fAnd, fOr, fNot, fAndV, fOrV, fNotV, fIf, fNil, fCons, fTup, fLst, fL, gI, gI0, gAdd, PD.gSub, gMul, gDiv, gMod, gPow, gNeg, gLt, gLe, gGt, gGe, gEq, gNe, eqS, gIsN, gNotN, gIn, gNotIn, D.seq, gIx, gIxC, fIxO, fIxOC, fLenO, olAt, Cell.ols, Cell.upd, putL, gSetOC, gAbs, gInt, gLen, gTuple, gList, gMax, gMin, gInts, gBls, iLst, PD.iTup, iRg1, iRg2, gNm, gsNil, gsCons, gTu, fCall, fCallM, fCallL, fCat, gCat, gCatT, fSl, fSlT, oNone, oSome, fGet, fGet2, dicAt, dKey, fSortIt, fYes, endsOf, endsM, wipeC, restoreC, keepC, List.getElem?_cons_zero, List.getElem?_cons_succ, List.set_cons_zero, List.set_cons_succ, List.length_cons, List.length_nil, List.getElem?_nil, Nat.beq, Nat.ble, Nat.blt, Nat.reduceAdd, Nat.reduceLeDiff, Nat.reduceLT, Nat.zero_add, Nat.reduceSucc, Nat.beq_eq]
  refine lc_run (items := natL (fullL P Q most)) (fun _ => true) (fun _ => .bl true) (by unfold natL; rw [List.length_map]; omega) (fun d hd P1 P0 k1 k0 => ?_) ?_
  · obtain ⟨p, hp, rfl⟩ := List.mem_map.mp hd
    try dsimp only [sSeq, sNil, sRet, sRetN, sExpr, sIf, sSet, sSetL, sAsg, sPar, sParL, sPar3, sAug, sBreak, sCont, sNo, sApp, sExt, sSetD, fIn, fRev, fDi, sPut, sSetK, fVar, fNm, fC, fOp, fUn, fCa, fCaL, fBo, fCh, fAnd, fOr, fNot, fAndV, fOrV, fNotV, fIf, fNil, fCons, fTup, fLst, fL, gI, gI0, gAdd, PD.gSub, gMul, gDiv, gMod, gPow, gNeg, gLt, gLe, gGt, gGe, gEq, gNe, eqS, gIsN, gNotN, gIn, gNotIn, D.seq, gIx, gIxC, fIxO, fIxOC, fLenO, olAt, Cell.ols, Cell.upd, putL, gSetOC, gAbs, gInt, gLen, gTuple, gList, gMax, gMin, gInts, gBls, iLst, PD.iTup, iRg1, iRg2, gNm, gsNil, gsCons, gTu, fCall, fCallM, fCallL, fCat, gCat, gCatT, fSl, fSlT, oNone, oSome, fGet, fGet2, dicAt, dKey, fSortIt, fYes, endsOf, endsM, wipeC, restoreC, keepC, List.getElem?_cons_zero, List.getElem?_cons_succ, List.set_cons_zero, List.set_cons_succ, List.length_cons, List.length_nil, List.getElem?_nil, Nat.beq, Nat.ble, Nat.blt, Nat.reduceAdd, Nat.reduceLeDiff, Nat.reduceLT, Nat.zero_add, Nat.reduceSucc, Nat.beq_eq]
    rw [if_pos rfl]
    refine ⟨P, Q, wide, hb, by omega, x2, rfl, flat_natL _, ?_⟩
    have hin : inD (.int (p : Int)) (natL (fullL P Q wide)) = true := by
      rw [in_natL]
      obtain ⟨p1, p2⟩ := List.mem_filter.mp hp
      exact decide_eq_true (List.mem_filter.mpr ⟨lst_mono x1 p1, p2⟩)
    have hin : inD (.int (p : Int)) ((fullL P Q wide).map fun (p : Nat) => .int (p : Int)) = true := hin
    rw [hin]
    exact k1 rfl _ rfl
  have e1 : ((natL (fullL P Q most)).filter fun _ => true).map (fun _ => D.bl true) = ((natL (fullL P Q most)).map fun _ => true).map D.bl := by
    rw [List.filter_eq_self.mpr fun _ _ => rfl, List.map_map]
    rfl
  rw [e1]
  refine ⟨_, bls_map _, ?_⟩
  have e2 : ((natL (fullL P Q most)).map fun _ => true).all id = true := by
    rw [List.all_map]
    exact List.all_eq_true.mpr fun _ _ => (rfl : true = true)
  rw [e2]
  refine ifF ?_
  try dsimp only [sSeq, sNil, sRet, sRetN, sExpr, sIf, sSet, sSetL, sAsg, sPar, sParL, sPar3, sAug, sBreak, sCont, sNo, sApp, sExt, sSetD, fIn, fRev, fDi, sPut, sSetK, fVar, fNm, fC, fOp, fUn, fCa, fCaL, fBo, fCh, fAnd, fOr, fNot, fAndV, fOrV, fNotV, fIf, fNil, fCons, fTup, fLst, fL, gI, gI0, gAdd, PD.gSub, gMul, gDiv, gMod, gPow, gNeg, gLt, gLe, gGt, gGe, gEq, gNe, eqS, gIsN, gNotN, gIn, gNotIn, D.seq, gIx, gIxC, fIxO, fIxOC, fLenO, olAt, Cell.ols, Cell.upd, putL, gSetOC, gAbs, gInt, gLen, gTuple, gList, gMax, gMin, gInts, gBls, iLst, PD.iTup, iRg1, iRg2, gNm, gsNil, gsCons, gTu, fCall, fCallM, fCallL, fCat, gCat, gCatT, fSl, fSlT, oNone, oSome, fGet, fGet2, dicAt, dKey, fSortIt, fYes, endsOf, endsM, wipeC, restoreC, keepC, List.getElem?_cons_zero, List.getElem?_cons_succ, List.set_cons_zero, List.set_cons_succ, List.length_cons, List.length_nil, List.getElem?_nil, Nat.beq, Nat.ble, Nat.blt, Nat.reduceAdd, Nat.reduceLeDiff, Nat.reduceLT, Nat.zero_add, Nat.reduceSucc, Nat.beq_eq]
  refine ⟨P, Q, wide, hb, by omega, x2, rfl, fun g hg => ?_⟩
  have := fw_mono x1 hfw hg
  try dsimp only [sSeq, sNil, sRet, sRetN, sExpr, sIf, sSet, sSetL, sAsg, sPar, sParL, sPar3, sAug, sBreak, sCont, sNo, sApp, sExt, sSetD, fIn, fRev, fDi, sPut, sSetK, fVar, fNm, fC, fOp, fUn, fCa, fCaL, fBo, fCh, fAnd, fOr, fNot, fAndV, fOrV, fNotV, fIf, fNil, fCons, fTup, fLst, fL, gI, gI0, gAdd, PD.gSub, gMul, gDiv, gMod, gPow, gNeg, gLt, gLe, gGt, gGe, gEq, gNe, eqS, gIsN, gNotN, gIn, gNotIn, D.seq, gIx, gIxC, fIxO, fIxOC, fLenO, olAt, Cell.ols, Cell.upd, putL, gSetOC, gAbs, gInt, gLen, gTuple, gList, gMax, gMin, gInts, gBls, iLst, PD.iTup, iRg1, iRg2, gNm, gsNil, gsCons, gTu, fCall, fCallM, fCallL, fCat, gCat, gCatT, fSl, fSlT, oNone, oSome, fGet, fGet2, dicAt, dKey, fSortIt, fYes, endsOf, endsM, wipeC, restoreC, keepC, List.getElem?_cons_zero, List.getElem?_cons_succ, List.set_cons_zero, List.set_cons_succ, List.length_cons, List.length_nil, List.getElem?_nil, Nat.beq, Nat.ble, Nat.blt, Nat.reduceAdd, Nat.reduceLeDiff, Nat.reduceLT, Nat.zero_add, Nat.reduceSucc, Nat.beq_eq]
  rw [decide_eq_true (show ((fi + 2 : Nat) : Int) ≤ (g : Int) by omega)]
  exact ⟨hs3, rfl, hR hs3 hh3⟩
/-! the law -/
theorem ln_law : ∀ ds R, ct_law ds R → ds.length = 1 := by
  rintro ds R ⟨ns, _, rfl, _⟩; rfl
def twM (P Q : Int) (most : Nat) : List Nat := (lst Q most).filter fun p => decide ((seqM P Q ((p : Int) * p) (rkN P Q p)).1 = 0)
theorem tw_M (P Q : Int) (most : Nat) : twL P Q most = twM P Q most := by
  unfold twL twM
  refine List.filter_congr fun p _ => ?_
  unfold twice
  rw [seq_U]
theorem known1 : fullL 1 (-1) 30 = [2, 3, 7, 23] ∧ twM 1 (-1) 100 = [] ∧ fullL 3 2 20 = [] ∧ twM 3 2 40 = [] ∧ 2 ∉ (lst (-1) 20).map (rkN 1 (-1)) ∧ 5 ∉ (lst 2 7).map (rkN 3 2) ∧ (∀ k ∈ [2, 3, 4], k ∈ (lst 2 7).map (rkN 3 2)) := by decide +kernel
theorem fw1 : Fw 1 (-1) 20 2 := ⟨by decide, known1.2.2.2.2.1, fun k a b => by omega⟩
end K84

namespace K84
open PySem PySem.Spec L2 PD RowU
theorem fw2 : Fw 3 2 7 5 := ⟨by decide, known1.2.2.2.2.2.1, fun k a b => by
  have h := known1.2.2.2.2.2.2
  have : k = 2 ∨ k = 3 ∨ k = 4 := by omega
  rcases this with rfl | rfl | rfl
  · exact h 2 (by decide)
  · exact h 3 (by decide)
  · exact h 4 (by decide)⟩
def KN : List D := [.tup [.int 2, .int 3, .int 7, .int 23], .int 2, .tup [], .tup [], .int 5, .tup []]
theorem KN_sho : (D.lst KN).sho ∧ (D.lst KN).blk ≤ 8000 ∧ (D.lst KN).dp ≤ 60 := ⟨shB_ok _ (by decide +kernel), by decide +kernel, by decide +kernel⟩
def t4_law : FS := sSeq (sFor (iRg1 (fC (.int 5))) (gNm 3) (sSeq (sSet 4 (fTup (fCons (fOp gSub (fCallM ct__law_draw 1 (fCons (fC (.int 201)) (fNil))) (fC (.int 100))) (fCons (fOp gSub (fCallM ct__law_draw 1 (fCons (fC (.int 201)) (fNil))) (fC (.int 100))) (fNil))))) (sSeq (sIf (fBo (fOp gEq (fCallM ct__law_draw 1 (fCons (fC (.int 2)) (fNil))) (fC (.int 0)))) (sSet 4 (fTup (fCons (fOp gSub (fCallM ct__law_draw 1 (fCons (fC (.int 9)) (fNil))) (fC (.int 4))) (fCons (fOp gSub (fCallM ct__law_draw 1 (fCons (fC (.int 9)) (fNil))) (fC (.int 4))) (fNil))))) (sNil)) (sIf (fNot (fBo (fCallM ct__law_is_right 1 (fCons (fVar 4) (fNil))))) (sRet (fC (.bl false))) (sNil))))) (sRet (fC (.bl true)))
theorem law4 (ns : List Int) (R : D → Prop) (hR : R (.bl true)) (hs : List D) (hh : HandOk hs) (c2 : Cell) : t4_law (endsOf R) [.sh (.scr ns), .ol hs, c2, .un, .un] := by
  dsimp only [t4_law, sSeq, sNil, sRet, sRetN, sExpr, sIf, sSet, sSetL, sAsg, sPar, sParL, sPar3, sAug, sBreak, sCont, sNo, sApp, sExt, sSetD, fIn, fRev, fDi, sPut, sSetK, fVar, fNm, fC, fOp, fUn, fCa, fCaL, fBo, fCh, fAnd, fOr, fNot, fAndV, fOrV, fNotV, fIf, fNil, fCons, fTup, fLst, fL, gI, gI0, gAdd, PD.gSub, gMul, gDiv, gMod, gPow, gNeg, gLt, gLe, gGt, gGe, gEq, gNe, eqS, gIsN, gNotN, gIn, gNotIn, D.seq, gIx, gIxC, fIxO, fIxOC, fLenO, olAt, Cell.ols, Cell.upd, putL, gSetOC, gAbs, gInt, gLen, gTuple, gList, gMax, gMin, gInts, gBls, iLst, PD.iTup, iRg1, iRg2, gNm, gsNil, gsCons, gTu, fCall, fCallM, fCallL, fCat, gCat, gCatT, fSl, fSlT, oNone, oSome, fGet, fGet2, dicAt, dKey, fSortIt, fYes, endsOf, endsM, wipeC, restoreC, keepC, List.getElem?_cons_zero, List.getElem?_cons_succ, List.set_cons_zero, List.set_cons_succ, List.length_cons, List.length_nil, List.getElem?_nil, Nat.beq, Nat.ble, Nat.blt, Nat.reduceAdd, Nat.reduceLeDiff, Nat.reduceLT, Nat.zero_add, Nat.reduceSucc, Nat.beq_eq]
  refine ⟨RgOk.of (by decide) (by decide), ?_⟩
  refine ⟨fun i ρ => ∃ (hs : List D) (c3 c4 : Cell), HandOk hs ∧ ρ = [.sh (.scr ns), .ol hs, c2, c3, c4], ⟨hs, _, _, hh, rfl⟩, ?_, ?_⟩
  · rintro i d ρ hd ⟨hs0, c3, c4, hh0, rfl⟩
    try dsimp only [sSeq, sNil, sRet, sRetN, sExpr, sIf, sSet, sSetL, sAsg, sPar, sParL, sPar3, sAug, sBreak, sCont, sNo, sApp, sExt, sSetD, fIn, fRev, fDi, sPut, sSetK, fVar, fNm, fC, fOp, fUn, fCa, fCaL, fBo, fCh, fAnd, fOr, fNot, fAndV, fOrV, fNotV, fIf, fNil, fCons, fTup, fLst, fL, gI, gI0, gAdd, PD.gSub, gMul, gDiv, gMod, gPow, gNeg, gLt, gLe, gGt, gGe, gEq, gNe, eqS, gIsN, gNotN, gIn, gNotIn, D.seq, gIx, gIxC, fIxO, fIxOC, fLenO, olAt, Cell.ols, Cell.upd, putL, gSetOC, gAbs, gInt, gLen, gTuple, gList, gMax, gMin, gInts, gBls, iLst, PD.iTup, iRg1, iRg2, gNm, gsNil, gsCons, gTu, fCall, fCallM, fCallL, fCat, gCat, gCatT, fSl, fSlT, oNone, oSome, fGet, fGet2, dicAt, dKey, fSortIt, fYes, endsOf, endsM, wipeC, restoreC, keepC, List.getElem?_cons_zero, List.getElem?_cons_succ, List.set_cons_zero, List.set_cons_succ, List.length_cons, List.length_nil, List.getElem?_nil, Nat.beq, Nat.ble, Nat.blt, Nat.reduceAdd, Nat.reduceLeDiff, Nat.reduceLT, Nat.zero_add, Nat.reduceSucc, Nat.beq_eq]
    refine ⟨hh0, 201, rfl, by decide, by decide, fun hs1 z1 hh1 a1 a2 => ?_⟩
    refine ⟨hh1, 201, rfl, by decide, by decide, fun hs2 z2 hh2 b1 b2 => ?_⟩
    try dsimp only [sSeq, sNil, sRet, sRetN, sExpr, sIf, sSet, sSetL, sAsg, sPar, sParL, sPar3, sAug, sBreak, sCont, sNo, sApp, sExt, sSetD, fIn, fRev, fDi, sPut, sSetK, fVar, fNm, fC, fOp, fUn, fCa, fCaL, fBo, fCh, fAnd, fOr, fNot, fAndV, fOrV, fNotV, fIf, fNil, fCons, fTup, fLst, fL, gI, gI0, gAdd, PD.gSub, gMul, gDiv, gMod, gPow, gNeg, gLt, gLe, gGt, gGe, gEq, gNe, eqS, gIsN, gNotN, gIn, gNotIn, D.seq, gIx, gIxC, fIxO, fIxOC, fLenO, olAt, Cell.ols, Cell.upd, putL, gSetOC, gAbs, gInt, gLen, gTuple, gList, gMax, gMin, gInts, gBls, iLst, PD.iTup, iRg1, iRg2, gNm, gsNil, gsCons, gTu, fCall, fCallM, fCallL, fCat, gCat, gCatT, fSl, fSlT, oNone, oSome, fGet, fGet2, dicAt, dKey, fSortIt, fYes, endsOf, endsM, wipeC, restoreC, keepC, List.getElem?_cons_zero, List.getElem?_cons_succ, List.set_cons_zero, List.set_cons_succ, List.length_cons, List.length_nil, List.getElem?_nil, Nat.beq, Nat.ble, Nat.blt, Nat.reduceAdd, Nat.reduceLeDiff, Nat.reduceLT, Nat.zero_add, Nat.reduceSucc, Nat.beq_eq]
    refine ⟨hh2, 2, rfl, by decide, by decide, fun hs3 z3 hh3 _ _ => ?_⟩
    try dsimp only [sSeq, sNil, sRet, sRetN, sExpr, sIf, sSet, sSetL, sAsg, sPar, sParL, sPar3, sAug, sBreak, sCont, sNo, sApp, sExt, sSetD, fIn, fRev, fDi, sPut, sSetK, fVar, fNm, fC, fOp, fUn, fCa, fCaL, fBo, fCh, fAnd, fOr, fNot, fAndV, fOrV, fNotV, fIf, fNil, fCons, fTup, fLst, fL, gI, gI0, gAdd, PD.gSub, gMul, gDiv, gMod, gPow, gNeg, gLt, gLe, gGt, gGe, gEq, gNe, eqS, gIsN, gNotN, gIn, gNotIn, D.seq, gIx, gIxC, fIxO, fIxOC, fLenO, olAt, Cell.ols, Cell.upd, putL, gSetOC, gAbs, gInt, gLen, gTuple, gList, gMax, gMin, gInts, gBls, iLst, PD.iTup, iRg1, iRg2, gNm, gsNil, gsCons, gTu, fCall, fCallM, fCallL, fCat, gCat, gCatT, fSl, fSlT, oNone, oSome, fGet, fGet2, dicAt, dKey, fSortIt, fYes, endsOf, endsM, wipeC, restoreC, keepC, List.getElem?_cons_zero, List.getElem?_cons_succ, List.set_cons_zero, List.set_cons_succ, List.length_cons, List.length_nil, List.getElem?_nil, Nat.beq, Nat.ble, Nat.blt, Nat.reduceAdd, Nat.reduceLeDiff, Nat.reduceLT, Nat.zero_add, Nat.reduceSucc, Nat.beq_eq]
    refine ifb (fun _ => ?_) (fun _ => ?_)
    · refine ⟨hh3, 9, rfl, by decide, by decide, fun hs4 z4 hh4 c1 c2 => ?_⟩
      refine ⟨hh4, 9, rfl, by decide, by decide, fun hs5 z5 hh5 d1 d2 => ?_⟩
      try dsimp only [sSeq, sNil, sRet, sRetN, sExpr, sIf, sSet, sSetL, sAsg, sPar, sParL, sPar3, sAug, sBreak, sCont, sNo, sApp, sExt, sSetD, fIn, fRev, fDi, sPut, sSetK, fVar, fNm, fC, fOp, fUn, fCa, fCaL, fBo, fCh, fAnd, fOr, fNot, fAndV, fOrV, fNotV, fIf, fNil, fCons, fTup, fLst, fL, gI, gI0, gAdd, PD.gSub, gMul, gDiv, gMod, gPow, gNeg, gLt, gLe, gGt, gGe, gEq, gNe, eqS, gIsN, gNotN, gIn, gNotIn, D.seq, gIx, gIxC, fIxO, fIxOC, fLenO, olAt, Cell.ols, Cell.upd, putL, gSetOC, gAbs, gInt, gLen, gTuple, gList, gMax, gMin, gInts, gBls, iLst, PD.iTup, iRg1, iRg2, gNm, gsNil, gsCons, gTu, fCall, fCallM, fCallL, fCat, gCat, gCatT, fSl, fSlT, oNone, oSome, fGet, fGet2, dicAt, dKey, fSortIt, fYes, endsOf, endsM, wipeC, restoreC, keepC, List.getElem?_cons_zero, List.getElem?_cons_succ, List.set_cons_zero, List.set_cons_succ, List.length_cons, List.length_nil, List.getElem?_nil, Nat.beq, Nat.ble, Nat.blt, Nat.reduceAdd, Nat.reduceLeDiff, Nat.reduceLT, Nat.zero_add, Nat.reduceSucc, Nat.beq_eq]
      refine ⟨hh5, z4 - 4, z5 - 4, ⟨by omega, by omega, by omega, by omega⟩, rfl, fun hs6 hh6 => ifF ?_⟩
      exact ⟨hs6, _, _, hh6, rfl⟩
    · refine ⟨hh3, z1 - 100, z2 - 100, ⟨by omega, by omega, by omega, by omega⟩, rfl, fun hs6 hh6 => ifF ?_⟩
      exact ⟨hs6, _, _, hh6, rfl⟩
  · rintro ρ ⟨hs0, c3, c4, hh0, rfl⟩
    exact hR
theorem pu_law : ∀ ds R, ct_law ds R → t_law (endsOf R) (startC N_law (ds.map .sh)) := by
  rintro ds R ⟨ns, hl, rfl, hR⟩
  change t_law _ [.sh (.scr ns), .un, .un, .un, .un]
  show sSeq (sSetL 1 (fCallL ct__law_hand (fCons (fVar 0) (fNil)))) (sSeq (sSetL 2 (fLst (fCons (fCall ct_full_primes (fCons (fTup (fCons (fC (.int 1)) (fCons (fUn gNeg (fC (.int 1))) (fNil)))) (fCons (fC (.int 30)) (fNil)))) (fCons (fCall ct_first_without (fCons (fTup (fCons (fC (.int 1)) (fCons (fUn gNeg (fC (.int 1))) (fNil)))) (fCons (fC (.int 20)) (fNil)))) (fCons (fCall ct_double_primes (fCons (fTup (fCons (fC (.int 1)) (fCons (fUn gNeg (fC (.int 1))) (fNil)))) (fCons (fC (.int 100)) (fNil)))) (fNil)))))) (sSeq (sSetL 2 (fCat (fNm 2) (fL (fLst (fCons (fCall ct_full_primes (fCons (fTup (fCons (fC (.int 3)) (fCons (fC (.int 2)) (fNil)))) (fCons (fC (.int 20)) (fNil)))) (fCons (fCall ct_first_without (fCons (fTup (fCons (fC (.int 3)) (fCons (fC (.int 2)) (fNil)))) (fCons (fC (.int 7)) (fNil)))) (fCons (fCall ct_double_primes (fCons (fTup (fCons (fC (.int 3)) (fCons (fC (.int 2)) (fNil)))) (fCons (fC (.int 40)) (fNil)))) (fNil)))))))) (sSeq (sIf (fBo (fOp gNe (fCa gRepr (fCons (fNm 2) (fNil))) (fCa gRepr (fCons (fL (fLst (fCons (fTup (fCons (fC (.int 2)) (fCons (fC (.int 3)) (fCons (fC (.int 7)) (fCons (fC (.int 23)) (fNil)))))) (fCons (fC (.int 2)) (fCons (fTup (fNil)) (fCons (fTup (fNil)) (fCons (fC (.int 5)) (fCons (fTup (fNil)) (fNil))))))))) (fNil))))) (sRet (fC (.bl false))) (sNil)) t4_law))) (endsOf R) [.sh (.scr ns), .un, .un, .un, .un]
  obtain ⟨k1, k2, k3, k4, _⟩ := known1
  have n1 : (-1 : Int) = -1 := rfl
  dsimp only [sSeq, sNil, sRet, sRetN, sExpr, sIf, sSet, sSetL, sAsg, sPar, sParL, sPar3, sAug, sBreak, sCont, sNo, sApp, sExt, sSetD, fIn, fRev, fDi, sPut, sSetK, fVar, fNm, fC, fOp, fUn, fCa, fCaL, fBo, fCh, fAnd, fOr, fNot, fAndV, fOrV, fNotV, fIf, fNil, fCons, fTup, fLst, fL, gI, gI0, gAdd, PD.gSub, gMul, gDiv, gMod, gPow, gNeg, gLt, gLe, gGt, gGe, gEq, gNe, eqS, gIsN, gNotN, gIn, gNotIn, D.seq, gIx, gIxC, fIxO, fIxOC, fLenO, olAt, Cell.ols, Cell.upd, putL, gSetOC, gAbs, gInt, gLen, gTuple, gList, gMax, gMin, gInts, gBls, iLst, PD.iTup, iRg1, iRg2, gNm, gsNil, gsCons, gTu, fCall, fCallM, fCallL, fCat, gCat, gCatT, fSl, fSlT, oNone, oSome, fGet, fGet2, dicAt, dKey, fSortIt, fYes, endsOf, endsM, wipeC, restoreC, keepC, List.getElem?_cons_zero, List.getElem?_cons_succ, List.set_cons_zero, List.set_cons_succ, List.length_cons, List.length_nil, List.getElem?_nil, Nat.beq, Nat.ble, Nat.blt, Nat.reduceAdd, Nat.reduceLeDiff, Nat.reduceLT, Nat.zero_add, Nat.reduceSucc, Nat.beq_eq]
  refine ⟨ns, hl, rfl, fun hs hh => ?_⟩
  try dsimp only [sSeq, sNil, sRet, sRetN, sExpr, sIf, sSet, sSetL, sAsg, sPar, sParL, sPar3, sAug, sBreak, sCont, sNo, sApp, sExt, sSetD, fIn, fRev, fDi, sPut, sSetK, fVar, fNm, fC, fOp, fUn, fCa, fCaL, fBo, fCh, fAnd, fOr, fNot, fAndV, fOrV, fNotV, fIf, fNil, fCons, fTup, fLst, fL, gI, gI0, gAdd, PD.gSub, gMul, gDiv, gMod, gPow, gNeg, gLt, gLe, gGt, gGe, gEq, gNe, eqS, gIsN, gNotN, gIn, gNotIn, D.seq, gIx, gIxC, fIxO, fIxOC, fLenO, olAt, Cell.ols, Cell.upd, putL, gSetOC, gAbs, gInt, gLen, gTuple, gList, gMax, gMin, gInts, gBls, iLst, PD.iTup, iRg1, iRg2, gNm, gsNil, gsCons, gTu, fCall, fCallM, fCallL, fCat, gCat, gCatT, fSl, fSlT, oNone, oSome, fGet, fGet2, dicAt, dKey, fSortIt, fYes, endsOf, endsM, wipeC, restoreC, keepC, List.getElem?_cons_zero, List.getElem?_cons_succ, List.set_cons_zero, List.set_cons_succ, List.length_cons, List.length_nil, List.getElem?_nil, Nat.beq, Nat.ble, Nat.blt, Nat.reduceAdd, Nat.reduceLeDiff, Nat.reduceLT, Nat.zero_add, Nat.reduceSucc, Nat.beq_eq]
  refine ⟨1, -1, 30, ⟨by decide, by decide, by decide, by decide⟩, by decide, by decide, rfl, ?_⟩
  refine ⟨1, -1, 20, ⟨by decide, by decide, by decide, by decide⟩, by decide, by decide, rfl, fun f hf => ?_⟩
  obtain rfl := fw_uniq hf fw1
  refine ⟨1, -1, 100, ⟨by decide, by decide, by decide, by decide⟩, by decide, by decide, rfl, ?_⟩
  try dsimp only [sSeq, sNil, sRet, sRetN, sExpr, sIf, sSet, sSetL, sAsg, sPar, sParL, sPar3, sAug, sBreak, sCont, sNo, sApp, sExt, sSetD, fIn, fRev, fDi, sPut, sSetK, fVar, fNm, fC, fOp, fUn, fCa, fCaL, fBo, fCh, fAnd, fOr, fNot, fAndV, fOrV, fNotV, fIf, fNil, fCons, fTup, fLst, fL, gI, gI0, gAdd, PD.gSub, gMul, gDiv, gMod, gPow, gNeg, gLt, gLe, gGt, gGe, gEq, gNe, eqS, gIsN, gNotN, gIn, gNotIn, D.seq, gIx, gIxC, fIxO, fIxOC, fLenO, olAt, Cell.ols, Cell.upd, putL, gSetOC, gAbs, gInt, gLen, gTuple, gList, gMax, gMin, gInts, gBls, iLst, PD.iTup, iRg1, iRg2, gNm, gsNil, gsCons, gTu, fCall, fCallM, fCallL, fCat, gCat, gCatT, fSl, fSlT, oNone, oSome, fGet, fGet2, dicAt, dKey, fSortIt, fYes, endsOf, endsM, wipeC, restoreC, keepC, List.getElem?_cons_zero, List.getElem?_cons_succ, List.set_cons_zero, List.set_cons_succ, List.length_cons, List.length_nil, List.getElem?_nil, Nat.beq, Nat.ble, Nat.blt, Nat.reduceAdd, Nat.reduceLeDiff, Nat.reduceLT, Nat.zero_add, Nat.reduceSucc, Nat.beq_eq]
  refine ⟨3, 2, 20, ⟨by decide, by decide, by decide, by decide⟩, by decide, by decide, rfl, ?_⟩
  refine ⟨3, 2, 7, ⟨by decide, by decide, by decide, by decide⟩, by decide, by decide, rfl, fun f hf => ?_⟩
  obtain rfl := fw_uniq hf fw2
  refine ⟨3, 2, 40, ⟨by decide, by decide, by decide, by decide⟩, by decide, by decide, rfl, ?_⟩
  rw [k1, tw_M, k2, k3, tw_M, k4]
  refine ⟨(show 6 ≤ 1000000 by decide), ?_⟩
  try dsimp only [sSeq, sNil, sRet, sRetN, sExpr, sIf, sSet, sSetL, sAsg, sPar, sParL, sPar3, sAug, sBreak, sCont, sNo, sApp, sExt, sSetD, fIn, fRev, fDi, sPut, sSetK, fVar, fNm, fC, fOp, fUn, fCa, fCaL, fBo, fCh, fAnd, fOr, fNot, fAndV, fOrV, fNotV, fIf, fNil, fCons, fTup, fLst, fL, gI, gI0, gAdd, PD.gSub, gMul, gDiv, gMod, gPow, gNeg, gLt, gLe, gGt, gGe, gEq, gNe, eqS, gIsN, gNotN, gIn, gNotIn, D.seq, gIx, gIxC, fIxO, fIxOC, fLenO, olAt, Cell.ols, Cell.upd, putL, gSetOC, gAbs, gInt, gLen, gTuple, gList, gMax, gMin, gInts, gBls, iLst, PD.iTup, iRg1, iRg2, gNm, gsNil, gsCons, gTu, fCall, fCallM, fCallL, fCat, gCat, gCatT, fSl, fSlT, oNone, oSome, fGet, fGet2, dicAt, dKey, fSortIt, fYes, endsOf, endsM, wipeC, restoreC, keepC, List.getElem?_cons_zero, List.getElem?_cons_succ, List.set_cons_zero, List.set_cons_succ, List.length_cons, List.length_nil, List.getElem?_nil, Nat.beq, Nat.ble, Nat.blt, Nat.reduceAdd, Nat.reduceLeDiff, Nat.reduceLT, Nat.zero_add, Nat.reduceSucc, Nat.beq_eq]
  change gRepr [.lst KN] _
  refine ⟨KN_sho.1, KN_sho.2.1, KN_sho.2.2, ?_⟩
  try dsimp only [sSeq, sNil, sRet, sRetN, sExpr, sIf, sSet, sSetL, sAsg, sPar, sParL, sPar3, sAug, sBreak, sCont, sNo, sApp, sExt, sSetD, fIn, fRev, fDi, sPut, sSetK, fVar, fNm, fC, fOp, fUn, fCa, fCaL, fBo, fCh, fAnd, fOr, fNot, fAndV, fOrV, fNotV, fIf, fNil, fCons, fTup, fLst, fL, gI, gI0, gAdd, PD.gSub, gMul, gDiv, gMod, gPow, gNeg, gLt, gLe, gGt, gGe, gEq, gNe, eqS, gIsN, gNotN, gIn, gNotIn, D.seq, gIx, gIxC, fIxO, fIxOC, fLenO, olAt, Cell.ols, Cell.upd, putL, gSetOC, gAbs, gInt, gLen, gTuple, gList, gMax, gMin, gInts, gBls, iLst, PD.iTup, iRg1, iRg2, gNm, gsNil, gsCons, gTu, fCall, fCallM, fCallL, fCat, gCat, gCatT, fSl, fSlT, oNone, oSome, fGet, fGet2, dicAt, dKey, fSortIt, fYes, endsOf, endsM, wipeC, restoreC, keepC, List.getElem?_cons_zero, List.getElem?_cons_succ, List.set_cons_zero, List.set_cons_succ, List.length_cons, List.length_nil, List.getElem?_nil, Nat.beq, Nat.ble, Nat.blt, Nat.reduceAdd, Nat.reduceLeDiff, Nat.reduceLT, Nat.zero_add, Nat.reduceSucc, Nat.beq_eq]
  change gRepr [.lst KN] _
  refine ⟨KN_sho.1, KN_sho.2.1, KN_sho.2.2, ?_⟩
  try dsimp only [sSeq, sNil, sRet, sRetN, sExpr, sIf, sSet, sSetL, sAsg, sPar, sParL, sPar3, sAug, sBreak, sCont, sNo, sApp, sExt, sSetD, fIn, fRev, fDi, sPut, sSetK, fVar, fNm, fC, fOp, fUn, fCa, fCaL, fBo, fCh, fAnd, fOr, fNot, fAndV, fOrV, fNotV, fIf, fNil, fCons, fTup, fLst, fL, gI, gI0, gAdd, PD.gSub, gMul, gDiv, gMod, gPow, gNeg, gLt, gLe, gGt, gGe, gEq, gNe, eqS, gIsN, gNotN, gIn, gNotIn, D.seq, gIx, gIxC, fIxO, fIxOC, fLenO, olAt, Cell.ols, Cell.upd, putL, gSetOC, gAbs, gInt, gLen, gTuple, gList, gMax, gMin, gInts, gBls, iLst, PD.iTup, iRg1, iRg2, gNm, gsNil, gsCons, gTu, fCall, fCallM, fCallL, fCat, gCat, gCatT, fSl, fSlT, oNone, oSome, fGet, fGet2, dicAt, dKey, fSortIt, fYes, endsOf, endsM, wipeC, restoreC, keepC, List.getElem?_cons_zero, List.getElem?_cons_succ, List.set_cons_zero, List.set_cons_succ, List.length_cons, List.length_nil, List.getElem?_nil, Nat.beq, Nat.ble, Nat.blt, Nat.reduceAdd, Nat.reduceLeDiff, Nat.reduceLT, Nat.zero_add, Nat.reduceSucc, Nat.beq_eq]
  refine ne_same ?_
  exact law4 ns R hR hs hh _
end K84

namespace K84
open PySem PySem.Spec L2 PD PyProof.Rows
section
variable {P : Program} {w : World} {K : PySem.W.Frag} {mg : Str → Option Value} {base : Heap}
theorem dv_is_integer (d : Def K mg "is_integer" st_is_integer ["thing"]) (f_isinstance : mg "isinstance" = none) (f_int : mg "int" = none) (f_bool : mg "bool" = none) : Has P w K mg base L2.CX0 "is_integer" 1 (spC K ct_is_integer) := by
  refine d.hasC sc_is_integer ln_is_integer fun f cdv A outer s H E hr => ⟨t_is_integer, ?_, pu_is_integer⟩
  exact (bv_one (sv_ret (ev_and (ev_isi (T := "int") rfl (by decide +kernel) f_isinstance f_int (ev_var 0)) (ev_one (ev_not (ev_isi (T := "bool") rfl (by decide +kernel) f_isinstance f_bool (ev_var 0)))))))
theorem dv_is_within (d : Def K mg "is_within" st_is_within ["thing", "low", "high"]) (h_is_integer : Has P w K mg base L2.CX0 "is_integer" 1 (spC K ct_is_integer)) : Has P w K mg base L2.CX0 "is_within" 2 (spC K ct_is_within) := by
  refine d.hasC sc_is_within ln_is_within fun f cdv A outer s H E hr => ⟨t_is_within, ?_, pu_is_within⟩
  exact (bv_one (sv_ret (ev_and (ev_call (h_is_integer.mono (by decide)) hr (av_cons (ev_var 0) av_nil)) (ev_one (ev_chain op_le od_le op_le od_le (ev_var 1) (ev_var 0) (ev_var 2))))))
theorem dv_is_base (d : Def K mg "is_base" st_is_base ["thing"]) (f_all : mg "all" = none) (f_isinstance : mg "isinstance" = none) (f_tuple : mg "tuple" = none) (f_len : mg "len" = none) {t_MOST_BASE_ : Tok} (g_MOST_BASE : mg "MOST_BASE" = some (.int 100 t_MOST_BASE_)) (h_is_within : Has P w K mg base L2.CX0 "is_within" 2 (spC K ct_is_within)) : Has P w K mg base L2.CX0 "is_base" 3 (spC K ct_is_base) := by
  refine d.hasC sc_is_base ln_is_base fun f cdv A outer s H E hr => ⟨t_is_base, ?_, pu_is_base⟩
  exact (bv_cons (sv_if (wv_pt (wv_or (tv_not (tv_val (ev_isi (T := "tuple") rfl (by decide +kernel) f_isinstance f_tuple (ev_var 0)))) (wv_or1 (tv_cmp op_ne od_ne (ev_len f_len (av_cons (ev_var 0) av_nil)) ev_int (nomark _))))) (bv_one (sv_ret ev_bl)) bv_nil) (bv_one (sv_ret (ev_all rfl f_all (av_cons (lv_ev (lv_lc (own := [("one", 1)]) rfl sc_is_base.nd (iv_tup (ev_var 0)) (blkOk_by (N := N_is_base) (sc := defScope st_is_base) (own := [("one", 1)]) (by decide +kernel)) (fun s H C cl fp => (gw_name 1 sc_is_base.nd (by decide))) (fun s H C cl fp => tvs_nil) (fun s H C cl fp => (ev_call (h_is_within.mono (by decide)) hr (av_cons (ev_var 1) (av_cons (ev_neg (ev_gint g_MOST_BASE)) (av_cons (ev_gint g_MOST_BASE) av_nil))))))) av_nil)))))
theorem dv_check_base (d : Def K mg "check_base" st_check_base ["thing"]) (h_is_base : Has P w K mg base L2.CX0 "is_base" 3 (spC K ct_is_base)) : Has P w K mg base L2.CX0 "check_base" 4 (spC K ct_check_base) := by
  refine d.hasC sc_check_base ln_check_base fun f cdv A outer s H E hr => ⟨t_check_base, ?_, pu_check_base⟩
  exact (bv_one (sv_if (tv_not (tv_val (ev_call (h_is_base.mono (by decide)) hr (av_cons (ev_var 0) av_nil)))) (bv_one sv_never) bv_nil))
theorem dv_check_number (d : Def K mg "check_number" st_check_number ["thing", "low", "high"]) (h_is_within : Has P w K mg base L2.CX0 "is_within" 2 (spC K ct_is_within)) : Has P w K mg base L2.CX0 "check_number" 3 (spC K ct_check_number) := by
  refine d.hasC sc_check_number ln_check_number fun f cdv A outer s H E hr => ⟨t_check_number, ?_, pu_check_number⟩
  exact (bv_one (sv_if (tv_not (tv_val (ev_call (h_is_within.mono (by decide)) hr (av_cons (ev_var 0) (av_cons (ev_var 1) (av_cons (ev_var 2) av_nil)))))) (bv_one sv_never) bv_nil))
theorem dv_next_left (d : Def K mg "next_left" st_next_left ["base", "here", "by"]) : Has P w K mg base L2.CX0 "next_left" 1 (spC K ct_next_left) := by
  refine d.hasC sc_next_left ln_next_left fun f cdv A outer s H E hr => ⟨t_next_left, ?_, pu_next_left⟩
  exact (bv_one (sv_ret (ev_tup (av_cons (ev_ixC (n := 1) (ev_var 1)) (av_cons (ev_mod (ev_sub (ev_mul (ev_ixC (n := 0) (ev_var 0)) (ev_ixC (n := 1) (ev_var 1))) (ev_mul (ev_ixC (n := 1) (ev_var 0)) (ev_ixC (n := 0) (ev_var 1)))) (ev_var 2)) av_nil)))))
theorem dv_bits_of (d : Def K mg "bits_of" st_bits_of ["number"]) : Has P w K mg base L2.CX0 "bits_of" 1 (spC K ct_bits_of) := by
  refine d.hasC sc_bits_of ln_bits_of fun f cdv A outer s H E hr => ⟨t_bits_of, ?_, pu_bits_of⟩
  exact (bv_cons (sv_setL 1 sc_bits_of.nd (lv_lst av_nil)) (bv_cons (sv_while PassesOwn.never (tv_cmp op_gt od_gt (ev_var 0) ev_int (nomark _)) (bv_cons (sv_app 1 (pe_bm F.plainAttrs_list F.slot_list_append F.type_list_append mt_append (pv 1) (pa_cons (ev_mod (ev_var 0) ev_int) pa_nil))) (bv_one (sv_set 0 sc_bits_of.nd (ev_div (ev_var 0) ev_int))))) (bv_one (sv_ret (lv_ev (lv_rev (ev_nm 1)))))))
theorem dv_raw_left (d : Def K mg "raw_left" st_raw_left ["base", "n", "by"]) (h_bits_of : Has P w K mg base L2.CX0 "bits_of" 1 (spC K ct_bits_of)) : Has P w K mg base L2.CX0 "raw_left" 2 (spC K ct_raw_left) := by
  refine d.hasC sc_raw_left ln_raw_left fun f cdv A outer s H E hr => ⟨t_raw_left, ?_, pu_raw_left⟩
  exact (bv_cons (sv_asg (ev_var 0) (gv_tup rfl (gvs_cons (gv_name 4 sc_raw_left.nd) (gvs_cons (gv_name 5 sc_raw_left.nd) gvs_nil)))) (bv_cons (sv_par3 6 7 8 rfl sc_raw_left.nd ev_int (ev_mod ev_int (ev_var 2)) (ev_mod ev_int (ev_var 2))) (bv_cons (sv_for PassesOwn.never rfl (iv_list (ev_call (h_bits_of.mono (by decide)) hr (av_cons (ev_var 1) av_nil))) (gv_name 3 sc_raw_left.nd) (bv_cons (sv_par 6 7 rfl sc_raw_left.nd (ev_mod (ev_mul (ev_var 6) (ev_sub (ev_mul ev_int (ev_var 7)) (ev_mul (ev_var 4) (ev_var 6)))) (ev_var 2)) (ev_mod (ev_sub (ev_mul (ev_var 7) (ev_var 7)) (ev_mul (ev_mul (ev_var 5) (ev_var 6)) (ev_var 6))) (ev_var 2))) (bv_cons (sv_set 8 sc_raw_left.nd (ev_mod (ev_mul (ev_var 8) (ev_var 8)) (ev_var 2))) (bv_one (sv_if (tv_cmp op_eq od_eq (ev_var 3) ev_int (nomark _)) (bv_cons (sv_par 6 7 rfl sc_raw_left.nd (ev_var 7) (ev_mod (ev_sub (ev_mul (ev_var 4) (ev_var 7)) (ev_mul (ev_var 5) (ev_var 6))) (ev_var 2))) (bv_one (sv_set 8 sc_raw_left.nd (ev_mod (ev_mul (ev_var 8) (ev_var 5)) (ev_var 2))))) bv_nil))))) (bv_one (sv_ret (ev_tup (av_cons (ev_var 6) (av_cons (ev_var 7) (av_cons (ev_var 8) av_nil)))))))))
theorem dv_primes_of (d : Def K mg "primes_of" st_primes_of ["number"]) : Has P w K mg base L2.CX0 "primes_of" 1 (spC K ct_primes_of) := by
  refine d.hasC sc_primes_of ln_primes_of fun f cdv A outer s H E hr => ⟨t_primes_of, ?_, pu_primes_of⟩
  exact (bv_cons (sv_parL 1 2 rfl sc_primes_of.nd (lv_lst av_nil) ev_int) (bv_cons (sv_while PassesOwn.never (tv_cmp op_le od_le (ev_mul (ev_var 2) (ev_var 2)) (ev_var 0) (nomark _)) (bv_cons (sv_set 3 sc_primes_of.nd ev_int) (bv_cons (sv_while PassesOwn.never (tv_cmp op_eq od_eq (ev_mod (ev_var 0) (ev_var 2)) ev_int (nomark _)) (bv_cons (sv_set 0 sc_primes_of.nd (ev_div (ev_var 0) (ev_var 2))) (bv_one (sv_inc 3 sc_primes_of.nd ev_int)))) (bv_cons (sv_if (tv_cmp op_gt od_gt (ev_var 3) ev_int (nomark _)) (bv_one (sv_app 1 (pe_bm F.plainAttrs_list F.slot_list_append F.type_list_append mt_append (pv 1) (pa_cons (ev_tup (av_cons (ev_var 2) (av_cons (ev_var 3) av_nil))) pa_nil)))) bv_nil) (bv_one (sv_inc 2 sc_primes_of.nd ev_int)))))) (bv_one (sv_ret (lv_ev (lv_cat (ev_nm 1) (ev_if (tv_cmp op_gt od_gt (ev_var 0) ev_int (nomark _)) (lv_ev (lv_lst (av_cons (ev_tup (av_cons (ev_var 0) (av_cons ev_int av_nil))) av_nil))) (lv_ev (lv_lst av_nil)))))))))
theorem dv_raw_rank (d : Def K mg "raw_rank" st_raw_rank ["base", "by"]) (h_next_left : Has P w K mg base L2.CX0 "next_left" 1 (spC K ct_next_left)) : Has P w K mg base L2.CX0 "raw_rank" 2 (spC K ct_raw_rank) := by
  refine d.hasC sc_raw_rank ln_raw_rank fun f cdv A outer s H E hr => ⟨t_raw_rank, ?_, pu_raw_rank⟩
  exact (bv_cons (sv_par 2 3 rfl sc_raw_rank.nd (ev_call (h_next_left.mono (by decide)) hr (av_cons (ev_var 0) (av_cons (ev_tup (av_cons ev_int (av_cons (ev_mod ev_int (ev_var 1)) av_nil))) (av_cons (ev_var 1) av_nil)))) ev_int) (bv_cons (sv_while PassesOwn.never (tv_cmp op_ne od_ne (ev_ixC (n := 0) (ev_var 2)) ev_int (nomark _)) (bv_cons (sv_set 2 sc_raw_rank.nd (ev_call (h_next_left.mono (by decide)) hr (av_cons (ev_var 0) (av_cons (ev_var 2) (av_cons (ev_var 1) av_nil))))) (bv_one (sv_inc 3 sc_raw_rank.nd ev_int)))) (bv_one (sv_ret (ev_var 3)))))
theorem dv_has_left (d : Def K mg "has_left" st_has_left ["base", "n", "by"]) (h_raw_left : Has P w K mg base L2.CX0 "raw_left" 2 (spC K ct_raw_left)) : Has P w K mg base L2.CX0 "has_left" 3 (spC K ct_has_left) := by
  refine d.hasC sc_has_left ln_has_left fun f cdv A outer s H E hr => ⟨t_has_left, ?_, pu_has_left⟩
  exact (bv_one (sv_ret (ev_cmp op_eq od_eq (ev_ixC (n := 0) (ev_call (h_raw_left.mono (by decide)) hr (av_cons (ev_var 0) (av_cons (ev_var 1) (av_cons (ev_var 2) av_nil))))) ev_int (nomark _))))
theorem dv_prime_rank (d : Def K mg "prime_rank" st_prime_rank ["base", "p"]) {t_MOST_SMALL_ : Tok} (g_MOST_SMALL : mg "MOST_SMALL" = some (.int 1000 t_MOST_SMALL_)) (h_raw_rank : Has P w K mg base L2.CX0 "raw_rank" 2 (spC K ct_raw_rank)) : Has P w K mg base L2.CX0 "prime_rank" 3 (spC K ct_prime_rank) := by
  refine d.hasC sc_prime_rank ln_prime_rank fun f cdv A outer s H E hr => ⟨t_prime_rank, ?_, pu_prime_rank⟩
  exact (bv_cons (sv_if (wv_pt (wv_or (tv_cmp op_eq od_eq (ev_var 1) ev_int (nomark _)) (wv_or1 (tv_cmp op_lt od_lt (ev_var 1) (ev_gint g_MOST_SMALL) (nomark _))))) (bv_one (sv_ret (ev_call (h_raw_rank.mono (by decide)) hr (av_cons (ev_var 0) (av_cons (ev_var 1) av_nil))))) bv_nil) (bv_one sv_never))
theorem dv_rank_list (d : Def K mg "rank_list" st_rank_list ["base", "p", "many"]) (f_range : mg "range" = none) (h_has_left : Has P w K mg base L2.CX0 "has_left" 3 (spC K ct_has_left)) (h_prime_rank : Has P w K mg base L2.CX0 "prime_rank" 3 (spC K ct_prime_rank)) : Has P w K mg base L2.CX0 "rank_list" 4 (spC K ct_rank_list) := by
  refine d.hasC sc_rank_list ln_rank_list fun f cdv A outer s H E hr => ⟨t_rank_list, ?_, pu_rank_list⟩
  exact (bv_cons (sv_parL 4 5 rfl sc_rank_list.nd (lv_lst (av_cons (ev_call (h_prime_rank.mono (by decide)) hr (av_cons (ev_var 0) (av_cons (ev_var 1) av_nil))) av_nil)) (ev_var 1)) (bv_cons (sv_for PassesOwn.never rfl (iv_range1 f_range (ev_sub (ev_var 2) ev_int)) (gv_name 3 sc_rank_list.nd) (bv_cons (sv_set 5 sc_rank_list.nd (ev_mul (ev_var 5) (ev_var 1))) (bv_one (sv_app 4 (pe_bm F.plainAttrs_list F.slot_list_append F.type_list_append mt_append (pv 4) (pa_cons (ev_if (tv_val (ev_call (h_has_left.mono (by decide)) hr (av_cons (ev_var 0) (av_cons (ev_ixO 4 (ev_neg ev_int)) (av_cons (ev_var 5) av_nil))))) (ev_ixO 4 (ev_neg ev_int)) (ev_mul (ev_ixO 4 (ev_neg ev_int)) (ev_var 1))) pa_nil)))))) (bv_one (sv_ret (ev_nm 4)))))
theorem dv_is_prime (d : Def K mg "is_prime" st_is_prime ["number"]) (h_primes_of : Has P w K mg base L2.CX0 "primes_of" 1 (spC K ct_primes_of)) : Has P w K mg base L2.CX0 "is_prime" 2 (spC K ct_is_prime) := by
  refine d.hasC sc_is_prime ln_is_prime fun f cdv A outer s H E hr => ⟨t_is_prime, ?_, pu_is_prime⟩
  exact (bv_one (sv_ret (ev_and (ev_cmp op_gt od_gt (ev_var 0) ev_int (nomark _)) (ev_one (ev_cmp (op_eqD hr.u64) od_eqD (ev_call (h_primes_of.mono (by decide)) hr (av_cons (ev_var 0) av_nil)) (lv_ev (lv_lst (av_cons (ev_tup (av_cons (ev_var 0) (av_cons ev_int av_nil))) av_nil))) (nomark _))))))
theorem dv_listed (d : Def K mg "listed" st_listed ["base", "most"]) (f_range : mg "range" = none) (h_is_prime : Has P w K mg base L2.CX0 "is_prime" 2 (spC K ct_is_prime)) : Has P w K mg base L2.CX0 "listed" 3 (spC K ct_listed) := by
  refine d.hasC sc_listed ln_listed fun f cdv A outer s H E hr => ⟨t_listed, ?_, pu_listed⟩
  exact (bv_one (sv_ret (lv_ev (lv_lc (own := [("p", 2)]) rfl sc_listed.nd (iv_range2 f_range ev_int (ev_add (ev_var 1) ev_int)) (blkOk_by (N := N_listed) (sc := defScope st_listed) (own := [("p", 2)]) (by decide +kernel)) (fun s H C cl fp => (gw_name 2 sc_listed.nd (by decide))) (fun s H C cl fp => (tvs_one (wv_pt (wv_and (tv_val (ev_call (h_is_prime.mono (by decide)) hr (av_cons (ev_var 2) av_nil))) (wv_and1 (tv_cmp op_ne od_ne (ev_mod (ev_ixC (n := 1) (ev_var 0)) (ev_var 2)) ev_int (nomark _))))))) (fun s H C cl fp => (ev_var 2))))))
theorem dv_check_listed (d : Def K mg "check_listed" st_check_listed ["base", "most"]) {t_MOST_LISTED_ : Tok} (g_MOST_LISTED : mg "MOST_LISTED" = some (.int 2000 t_MOST_LISTED_)) (h_check_number : Has P w K mg base L2.CX0 "check_number" 3 (spC K ct_check_number)) (h_check_base : Has P w K mg base L2.CX0 "check_base" 4 (spC K ct_check_base)) : Has P w K mg base L2.CX0 "check_listed" 5 (spC K ct_check_listed) := by
  refine d.hasC sc_check_listed ln_check_listed fun f cdv A outer s H E hr => ⟨t_check_listed, ?_, pu_check_listed⟩
  exact (bv_cons (sv_expr (ev_call (h_check_base.mono (by decide)) hr (av_cons (ev_var 0) av_nil))) (bv_one (sv_expr (ev_call (h_check_number.mono (by decide)) hr (av_cons (ev_var 1) (av_cons ev_int (av_cons (ev_gint g_MOST_LISTED) av_nil)))))))
theorem dv_ranks_to (d : Def K mg "ranks_to" st_ranks_to ["base", "most"]) (f_tuple : mg "tuple" = none) (h_listed : Has P w K mg base L2.CX0 "listed" 3 (spC K ct_listed)) (h_prime_rank : Has P w K mg base L2.CX0 "prime_rank" 3 (spC K ct_prime_rank)) (h_check_listed : Has P w K mg base L2.CX0 "check_listed" 5 (spC K ct_check_listed)) : Has P w K mg base L2.CX0 "ranks_to" 6 (spC K ct_ranks_to) := by
  refine d.hasC sc_ranks_to ln_ranks_to fun f cdv A outer s H E hr => ⟨t_ranks_to, ?_, pu_ranks_to⟩
  exact (bv_cons (sv_expr (ev_call (h_check_listed.mono (by decide)) hr (av_cons (ev_var 0) (av_cons (ev_var 1) av_nil)))) (bv_one (sv_ret (ev_tuple f_tuple (av_cons (lv_ev (lv_lc (own := [("p", 2)]) rfl sc_ranks_to.nd (iv_list (ev_call (h_listed.mono (by decide)) hr (av_cons (ev_var 0) (av_cons (ev_var 1) av_nil)))) (blkOk_by (N := N_ranks_to) (sc := defScope st_ranks_to) (own := [("p", 2)]) (by decide +kernel)) (fun s H C cl fp => (gw_name 2 sc_ranks_to.nd (by decide))) (fun s H C cl fp => tvs_nil) (fun s H C cl fp => (ev_tup (av_cons (ev_var 2) (av_cons (ev_call (h_prime_rank.mono (by decide)) hr (av_cons (ev_var 0) (av_cons (ev_var 2) av_nil))) av_nil)))))) av_nil)))))
theorem dv_full_primes (d : Def K mg "full_primes" st_full_primes ["base", "most"]) (f_tuple : mg "tuple" = none) (h_listed : Has P w K mg base L2.CX0 "listed" 3 (spC K ct_listed)) (h_prime_rank : Has P w K mg base L2.CX0 "prime_rank" 3 (spC K ct_prime_rank)) (h_check_listed : Has P w K mg base L2.CX0 "check_listed" 5 (spC K ct_check_listed)) : Has P w K mg base L2.CX0 "full_primes" 6 (spC K ct_full_primes) := by
  refine d.hasC sc_full_primes ln_full_primes fun f cdv A outer s H E hr => ⟨t_full_primes, ?_, pu_full_primes⟩
  exact (bv_cons (sv_expr (ev_call (h_check_listed.mono (by decide)) hr (av_cons (ev_var 0) (av_cons (ev_var 1) av_nil)))) (bv_one (sv_ret (ev_tuple f_tuple (av_cons (lv_ev (lv_lc (own := [("p", 2)]) rfl sc_full_primes.nd (iv_list (ev_call (h_listed.mono (by decide)) hr (av_cons (ev_var 0) (av_cons (ev_var 1) av_nil)))) (blkOk_by (N := N_full_primes) (sc := defScope st_full_primes) (own := [("p", 2)]) (by decide +kernel)) (fun s H C cl fp => (gw_name 2 sc_full_primes.nd (by decide))) (fun s H C cl fp => (tvs_one (tv_cmp op_eq od_eq (ev_call (h_prime_rank.mono (by decide)) hr (av_cons (ev_var 0) (av_cons (ev_var 2) av_nil))) (ev_add (ev_var 2) ev_int) (nomark _)))) (fun s H C cl fp => (ev_var 2)))) av_nil)))))
theorem dv_double_primes (d : Def K mg "double_primes" st_double_primes ["base", "most"]) (f_tuple : mg "tuple" = none) (h_listed : Has P w K mg base L2.CX0 "listed" 3 (spC K ct_listed)) (h_rank_list : Has P w K mg base L2.CX0 "rank_list" 4 (spC K ct_rank_list)) (h_prime_rank : Has P w K mg base L2.CX0 "prime_rank" 3 (spC K ct_prime_rank)) (h_check_listed : Has P w K mg base L2.CX0 "check_listed" 5 (spC K ct_check_listed)) : Has P w K mg base L2.CX0 "double_primes" 6 (spC K ct_double_primes) := by
  refine d.hasC sc_double_primes ln_double_primes fun f cdv A outer s H E hr => ⟨t_double_primes, ?_, pu_double_primes⟩
  exact (bv_cons (sv_expr (ev_call (h_check_listed.mono (by decide)) hr (av_cons (ev_var 0) (av_cons (ev_var 1) av_nil)))) (bv_one (sv_ret (ev_tuple f_tuple (av_cons (lv_ev (lv_lc (own := [("p", 2)]) rfl sc_double_primes.nd (iv_list (ev_call (h_listed.mono (by decide)) hr (av_cons (ev_var 0) (av_cons (ev_var 1) av_nil)))) (blkOk_by (N := N_double_primes) (sc := defScope st_double_primes) (own := [("p", 2)]) (by decide +kernel)) (fun s H C cl fp => (gw_name 2 sc_double_primes.nd (by decide))) (fun s H C cl fp => (tvs_one (tv_cmp op_eq od_eq (ev_ixC (n := 1) (ev_call (h_rank_list.mono (by decide)) hr (av_cons (ev_var 0) (av_cons (ev_var 2) (av_cons ev_int av_nil))))) (ev_call (h_prime_rank.mono (by decide)) hr (av_cons (ev_var 0) (av_cons (ev_var 2) av_nil))) (nomark _)))) (fun s H C cl fp => (ev_var 2)))) av_nil)))))
theorem dv_first_without (d : Def K mg "first_without" st_first_without ["base", "most"]) (h_listed : Has P w K mg base L2.CX0 "listed" 3 (spC K ct_listed)) (h_prime_rank : Has P w K mg base L2.CX0 "prime_rank" 3 (spC K ct_prime_rank)) (h_check_listed : Has P w K mg base L2.CX0 "check_listed" 5 (spC K ct_check_listed)) : Has P w K mg base L2.CX0 "first_without" 6 (spC K ct_first_without) := by
  refine d.hasC sc_first_without ln_first_without fun f cdv A outer s H E hr => ⟨t_first_without, ?_, pu_first_without⟩
  exact (bv_cons (sv_expr (ev_call (h_check_listed.mono (by decide)) hr (av_cons (ev_var 0) (av_cons (ev_var 1) av_nil)))) (bv_cons (sv_setDc 2 (own := [("p", 4)]) rfl sc_first_without.nd (iv_list (ev_call (h_listed.mono (by decide)) hr (av_cons (ev_var 0) (av_cons (ev_var 1) av_nil)))) (blkOk_by (N := N_first_without) (sc := defScope st_first_without) (own := [("p", 4)]) (by decide +kernel)) (fun s H C cl fp => (gw_name 4 sc_first_without.nd (by decide))) (fun s H C cl fp => tvs_nil) (fun s H C cl fp => (ev_call (h_prime_rank.mono (by decide)) hr (av_cons (ev_var 0) (av_cons (ev_var 4) av_nil)))) (fun s H C cl fp => ev_bl) (sw_dict rfl rfl rfl (by decide +kernel))) (bv_cons (sv_set 3 sc_first_without.nd ev_int) (bv_cons (sv_while PassesOwn.never (tv_of (cv_in 2 (pc_din hr.u1 (ev_var 3) (pv 2)))) (bv_one (sv_inc 3 sc_first_without.nd ev_int))) (bv_one (sv_ret (ev_var 3)))))))
theorem dv__law_hand (d : Def K mg "_law_hand" st__law_hand ["script"]) (f_int : mg "int" = none) (f_abs : mg "abs" = none) (f_len : mg "len" = none) : Has P w K mg base L2.CX0 "_law_hand" 1 (spL K ct__law_hand) := by
  refine d.hasL sc__law_hand ln__law_hand fun f cdv A outer s H E hr => ⟨t__law_hand, u__law_hand, ?_, pu__law_hand⟩
  exact pss_cons (sv_setLc 1 (own := [("cell", 2)]) rfl sc__law_hand.nd (iv_list (lv_ev (lv_sl (ev_var 0) ov_none (ov_some ev_int)))) (blkOk_by (N := N__law_hand) (sc := defScope st__law_hand) (own := [("cell", 2)]) (by decide +kernel)) (fun s H C cl fp => (gw_name 2 sc__law_hand.nd (by decide))) (fun s H C cl fp => tvs_nil) (fun s H C cl fp => (ev_mod (ev_intc f_int (av_cons (ev_abs f_abs (av_cons (ev_intc f_int (av_cons (ev_var 2) av_nil)) av_nil)) av_nil)) (ev_pow ev_int ev_int))) (sw_true rfl rfl rfl (by decide +kernel))) (pss_one (ps_ret (lv_lst (av_cons (ev_nm 1) (av_cons ev_int (av_cons ev_int (av_cons (ev_add ev_int (ev_mul ev_int (ev_lenO 1 f_len))) (av_cons ev_int av_nil))))))))
theorem dv__law_draw (d : Def K mg "_law_draw" st__law_draw ["hand", "many"]) (f_int : mg "int" = none) (f_len : mg "len" = none) : Has P w K mg base L2.CX0 "_law_draw" 1 (spM K ct__law_draw) := by
  refine d.hasM sc__law_draw ln__law_draw fun f cdv A outer s H E hr => ⟨t__law_draw, ?_, pu__law_draw⟩
  exact (bv_cons (sv_if (wv_pt (wv_and (tv_cmp op_eq od_eq (ev_ixOC (n := 2) 0) ev_int (nomark _)) (wv_and1 (tv_cmp op_lt od_lt (ev_ixOC (n := 1) 0) (ev_len f_len (av_cons (ev_ixOC (n := 0) 0) av_nil)) (nomark _))))) (bv_cons (sv_set 3 sc__law_draw.nd (ev_ix (ev_ixOC (n := 0) 0) (ev_ixOC (n := 1) 0))) (bv_cons (sv_asg (ev_add (ev_ixOC (n := 1) 0) ev_int) (gv_setOC (n := 1) 0)) (bv_cons (sv_asg (ev_mod (ev_intc f_int (av_cons (ev_add (ev_add (ev_mul (ev_ixOC (n := 3) 0) ev_int) (ev_mul (ev_var 3) ev_int)) ev_int) av_nil)) ev_int) (gv_setOC (n := 3) 0)) (bv_one (sv_if (tv_cmp op_ge od_ge (ev_var 3) (ev_pow ev_int ev_int) (nomark _)) (bv_one (sv_asg (ev_var 3) (gv_setOC (n := 2) 0))) bv_nil))))) bv_nil) (bv_cons (sv_if (tv_cmp op_gt od_gt (ev_ixOC (n := 2) 0) ev_int (nomark _)) (bv_cons (sv_set 4 sc__law_draw.nd (ev_mod (ev_intc f_int (av_cons (ev_ixOC (n := 2) 0) av_nil)) (ev_var 1))) (bv_cons (sv_asg (ev_div (ev_ixOC (n := 2) 0) (ev_var 1)) (gv_setOC (n := 2) 0)) (bv_one (sv_ret (ev_var 4))))) bv_nil) (bv_cons (sv_asg (ev_add (ev_ixOC (n := 4) 0) ev_int) (gv_setOC (n := 4) 0)) (bv_cons (sv_set 2 sc__law_draw.nd (ev_mod (ev_intc f_int (av_cons (ev_mul (ev_intc f_int (av_cons (ev_add (ev_ixOC (n := 3) 0) (ev_mul ev_int (ev_ixOC (n := 4) 0))) av_nil)) ev_int) av_nil)) ev_int)) (bv_cons (sv_set 2 sc__law_draw.nd (ev_mod (ev_intc f_int (av_cons (ev_mul (ev_var 2) (ev_add (ev_div (ev_var 2) ev_int) ev_int)) av_nil)) ev_int)) (bv_cons (sv_set 2 sc__law_draw.nd (ev_mod (ev_intc f_int (av_cons (ev_mul (ev_var 2) (ev_add (ev_div (ev_var 2) ev_int) ev_int)) av_nil)) ev_int)) (bv_one (sv_ret (ev_mod (ev_intc f_int (av_cons (ev_div (ev_var 2) ev_int) av_nil)) (ev_var 1))))))))))
theorem dv__law_some (d : Def K mg "_law_some" st__law_some ["hand", "things"]) (f_len : mg "len" = none) (h__law_draw : Has P w K mg base L2.CX0 "_law_draw" 1 (spM K ct__law_draw)) : Has P w K mg base L2.CX0 "_law_some" 2 (spM K ct__law_some) := by
  refine d.hasM sc__law_some ln__law_some fun f cdv A outer s H E hr => ⟨t__law_some, ?_, pu__law_some⟩
  exact (bv_one (sv_ret (ev_ix (ev_var 1) (ev_callM (i := 0) (h__law_draw.mono (by decide)) hr rfl (by first | exact Or.inl rfl | exact Or.inr (Or.inl rfl) | exact Or.inr (Or.inr rfl)) (av_cons (ev_len f_len (av_cons (ev_var 1) av_nil)) av_nil)))))
theorem dv__law_is_prime (d : Def K mg "_law_is_prime" st__law_is_prime ["number"]) (f_int : mg "int" = none) : Has P w K mg base L2.CX0 "_law_is_prime" 1 (spC K ct__law_is_prime) := by
  refine d.hasC sc__law_is_prime ln__law_is_prime fun f cdv A outer s H E hr => ⟨t__law_is_prime, ?_, pu__law_is_prime⟩
  exact (bv_cons (sv_if (tv_cmp op_lt od_lt (ev_var 0) ev_int (nomark _)) (bv_one (sv_ret ev_bl)) bv_nil) (bv_cons (sv_set 1 sc__law_is_prime.nd ev_int) (bv_cons (sv_while PassesOwn.never (tv_cmp op_le od_le (ev_mul (ev_var 1) (ev_var 1)) (ev_var 0) (nomark _)) (bv_cons (sv_if (tv_cmp op_eq od_eq (ev_mod (ev_intc f_int (av_cons (ev_var 0) av_nil)) (ev_var 1)) ev_int (nomark _)) (bv_one (sv_ret ev_bl)) bv_nil) (bv_one (sv_set 1 sc__law_is_prime.nd (ev_add (ev_var 1) ev_int))))) (bv_one (sv_ret ev_bl)))))
theorem dv__law_rank (d : Def K mg "_law_rank" st__law_rank ["base", "by", "most"]) (f_range : mg "range" = none) (f_int : mg "int" = none) : Has P w K mg base L2.CX0 "_law_rank" 1 (spC K ct__law_rank) := by
  refine d.hasC sc__law_rank ln__law_rank fun f cdv A outer s H E hr => ⟨t__law_rank, ?_, pu__law_rank⟩
  exact (bv_cons (sv_asg (ev_tup (av_cons ev_int (av_cons ev_int av_nil))) (gv_tup rfl (gvs_cons (gv_name 4 sc__law_rank.nd) (gvs_cons (gv_name 5 sc__law_rank.nd) gvs_nil)))) (bv_cons (sv_for PassesOwn.never rfl (iv_range2 f_range ev_int (ev_add (ev_var 2) ev_int)) (gv_name 3 sc__law_rank.nd) (bv_cons (sv_if (tv_cmp op_eq od_eq (ev_mod (ev_intc f_int (av_cons (ev_var 5) av_nil)) (ev_var 1)) ev_int (nomark _)) (bv_one (sv_ret (ev_var 3))) bv_nil) (bv_one (sv_par 4 5 rfl sc__law_rank.nd (ev_var 5) (ev_mod (ev_intc f_int (av_cons (ev_sub (ev_mul (ev_ixC (n := 0) (ev_var 0)) (ev_var 5)) (ev_mul (ev_ixC (n := 1) (ev_var 0)) (ev_var 4))) av_nil)) (ev_var 1)))))) (bv_one (sv_ret ev_non))))
theorem dv__law_ranks (d : Def K mg "_law_ranks" st__law_ranks ["base", "most"]) (f_int : mg "int" = none) (f_range : mg "range" = none) (h__law_rank : Has P w K mg base L2.CX0 "_law_rank" 1 (spC K ct__law_rank)) (h__law_is_prime : Has P w K mg base L2.CX0 "_law_is_prime" 1 (spC K ct__law_is_prime)) : Has P w K mg base L2.CX0 "_law_ranks" 2 (spC K ct__law_ranks) := by
  refine d.hasC sc__law_ranks ln__law_ranks fun f cdv A outer s H E hr => ⟨t__law_ranks, ?_, pu__law_ranks⟩
  exact (bv_cons (sv_setLc 2 (own := [("p", 3)]) rfl sc__law_ranks.nd (iv_range2 f_range ev_int (ev_add (ev_var 1) ev_int)) (blkOk_by (N := N__law_ranks) (sc := defScope st__law_ranks) (own := [("p", 3)]) (by decide +kernel)) (fun s H C cl fp => (gw_name 3 sc__law_ranks.nd (by decide))) (fun s H C cl fp => (tvs_one (tv_val (ev_call (h__law_is_prime.mono (by decide)) hr (av_cons (ev_var 3) av_nil))))) (fun s H C cl fp => (ev_var 3)) (sw_true rfl rfl rfl (by decide +kernel))) (bv_cons (sv_setLc 2 (own := [("p", 3)]) rfl sc__law_ranks.nd (iv_list (ev_nm 2)) (blkOk_by (N := N__law_ranks) (sc := defScope st__law_ranks) (own := [("p", 3)]) (by decide +kernel)) (fun s H C cl fp => (gw_name 3 sc__law_ranks.nd (by decide))) (fun s H C cl fp => (tvs_one (tv_cmp op_ne od_ne (ev_mod (ev_intc f_int (av_cons (ev_ixC (n := 1) (ev_var 0)) av_nil)) (ev_var 3)) ev_int (nomark _)))) (fun s H C cl fp => (ev_var 3)) (sw_true rfl rfl rfl (by decide +kernel))) (bv_one (sv_ret (lv_ev (lv_lc (own := [("p", 3)]) rfl sc__law_ranks.nd (iv_list (ev_nm 2)) (blkOk_by (N := N__law_ranks) (sc := defScope st__law_ranks) (own := [("p", 3)]) (by decide +kernel)) (fun s H C cl fp => (gw_name 3 sc__law_ranks.nd (by decide))) (fun s H C cl fp => tvs_nil) (fun s H C cl fp => (ev_tup (av_cons (ev_var 3) (av_cons (ev_call (h__law_rank.mono (by decide)) hr (av_cons (ev_var 0) (av_cons (ev_var 3) (av_cons (ev_add (ev_var 3) ev_int) av_nil)))) av_nil))))))))))
theorem dv__law_is_right (d : Def K mg "_law_is_right" st__law_is_right ["hand", "base"]) (f_all : mg "all" = none) (f_tuple : mg "tuple" = none) (f_repr : mg "repr" = none) (f_range : mg "range" = none) (f_len : mg "len" = none) (h_first_without : Has P w K mg base L2.CX0 "first_without" 6 (spC K ct_first_without)) (h_full_primes : Has P w K mg base L2.CX0 "full_primes" 6 (spC K ct_full_primes)) (h__law_draw : Has P w K mg base L2.CX0 "_law_draw" 1 (spM K ct__law_draw)) (h_ranks_to : Has P w K mg base L2.CX0 "ranks_to" 6 (spC K ct_ranks_to)) (h_double_primes : Has P w K mg base L2.CX0 "double_primes" 6 (spC K ct_double_primes)) (h__law_rank : Has P w K mg base L2.CX0 "_law_rank" 1 (spC K ct__law_rank)) (h__law_ranks : Has P w K mg base L2.CX0 "_law_ranks" 2 (spC K ct__law_ranks)) (h__law_some : Has P w K mg base L2.CX0 "_law_some" 2 (spM K ct__law_some)) : Has P w K mg base L2.CX0 "_law_is_right" 7 (spM K ct__law_is_right) := by
  refine d.hasM sc__law_is_right ln__law_is_right fun f cdv A outer s H E hr => ⟨t__law_is_right, ?_, pu__law_is_right⟩
  exact (bv_cons (sv_set 2 sc__law_is_right.nd (ev_add ev_int (ev_callM (i := 0) (h__law_draw.mono (by decide)) hr rfl (by first | exact Or.inl rfl | exact Or.inr (Or.inl rfl) | exact Or.inr (Or.inr rfl)) (av_cons (ev_callM (i := 0) (h__law_some.mono (by decide)) hr rfl (by first | exact Or.inl rfl | exact Or.inr (Or.inl rfl) | exact Or.inr (Or.inr rfl)) (av_cons (lv_ev (lv_lst (av_cons ev_int (av_cons ev_int av_nil)))) av_nil)) av_nil)))) (bv_cons (sv_set 3 sc__law_is_right.nd (ev_call (h__law_ranks.mono (by decide)) hr (av_cons (ev_var 1) (av_cons (ev_var 2) av_nil)))) (bv_cons (sv_set 4 sc__law_is_right.nd (ev_tuple f_tuple (av_cons (lv_ev (lv_lc (own := [("p", 10), ("rank", 11)]) rfl sc__law_is_right.nd (iv_list (ev_var 3)) (blkOk_by (N := N__law_is_right) (sc := defScope st__law_is_right) (own := [("p", 10), ("rank", 11)]) (by decide +kernel)) (fun s H C cl fp => (gw_tup rfl (gws_cons (gw_name 10 sc__law_is_right.nd (by decide)) (gws_cons (gw_name 11 sc__law_is_right.nd (by decide)) gws_nil)))) (fun s H C cl fp => (tvs_one (tv_cmp op_eq od_eq (ev_var 11) (ev_add (ev_var 10) ev_int) (nomark _)))) (fun s H C cl fp => (ev_var 10)))) av_nil))) (bv_cons (sv_setL 5 sc__law_is_right.nd (lv_lst av_nil)) (bv_cons (sv_for PassesOwn.never rfl (iv_list (ev_var 3)) (gv_tup rfl (gvs_cons (gv_name 10 sc__law_is_right.nd) (gvs_cons (gv_name 11 sc__law_is_right.nd) gvs_nil))) (bv_one (sv_ext 5 (pe_bm F.plainAttrs_list F.slot_list_extend F.type_list_extend mt_extend (pv 5) (pa_cons (ev_if (tv_cmp op_eq od_eq (ev_call (h__law_rank.mono (by decide)) hr (av_cons (ev_var 1) (av_cons (ev_mul (ev_var 10) (ev_var 10)) (av_cons (ev_var 11) av_nil)))) (ev_var 11) (nomark _)) (lv_ev (lv_lst (av_cons (ev_var 10) av_nil))) (lv_ev (lv_lst av_nil))) pa_nil))))) (bv_cons (sv_setL 6 sc__law_is_right.nd (lv_lst (av_cons (ev_call (h_full_primes.mono (by decide)) hr (av_cons (ev_var 1) (av_cons (ev_var 2) av_nil))) (av_cons (ev_call (h_double_primes.mono (by decide)) hr (av_cons (ev_var 1) (av_cons (ev_var 2) av_nil))) av_nil)))) (bv_cons (sv_if (tv_cmp op_ne od_ne (ev_repr hr f_repr (av_cons (ev_nm 6) av_nil)) (ev_repr hr f_repr (av_cons (lv_ev (lv_lst (av_cons (ev_var 4) (av_cons (ev_tuple f_tuple (av_cons (ev_nm 5) av_nil)) av_nil)))) av_nil)) (nomark _)) (bv_one (sv_ret ev_bl)) bv_nil) (bv_cons (sv_set 7 sc__law_is_right.nd (lv_ev (lv_lc (own := [("p", 10), ("rank", 11)]) rfl sc__law_is_right.nd (iv_list (ev_var 3)) (blkOk_by (N := N__law_is_right) (sc := defScope st__law_is_right) (own := [("p", 10), ("rank", 11)]) (by decide +kernel)) (fun s H C cl fp => (gw_tup rfl (gws_cons (gw_name 10 sc__law_is_right.nd (by decide)) (gws_cons (gw_name 11 sc__law_is_right.nd (by decide)) gws_nil)))) (fun s H C cl fp => tvs_nil) (fun s H C cl fp => (ev_var 11))))) (bv_cons (sv_set 8 sc__law_is_right.nd (ev_ixC (n := 0) (lv_ev (lv_lc (own := [("n", 12)]) rfl sc__law_is_right.nd (iv_range2 f_range ev_int (ev_add (ev_len f_len (av_cons (ev_var 3) av_nil)) ev_int)) (blkOk_by (N := N__law_is_right) (sc := defScope st__law_is_right) (own := [("n", 12)]) (by decide +kernel)) (fun s H C cl fp => (gw_name 12 sc__law_is_right.nd (by decide))) (fun s H C cl fp => (tvs_one (tv_cmp op_notIn_seq od_notIn (ev_var 12) (ev_var 7) rfl))) (fun s H C cl fp => (ev_var 12)))))) (bv_cons (sv_if (tv_cmp op_ne od_ne (ev_repr hr f_repr (av_cons (ev_call (h_first_without.mono (by decide)) hr (av_cons (ev_var 1) (av_cons (ev_var 2) av_nil))) av_nil)) (ev_repr hr f_repr (av_cons (ev_var 8) av_nil)) (nomark _)) (bv_one (sv_ret ev_bl)) bv_nil) (bv_cons (sv_if (tv_cmp (op_neD hr.u64) od_neD (ev_tuple f_tuple (av_cons (lv_ev (lv_lc (own := [("p", 10), ("rank", 11)]) rfl sc__law_is_right.nd (iv_tup (ev_call (h_ranks_to.mono (by decide)) hr (av_cons (ev_var 1) (av_cons (ev_var 2) av_nil)))) (blkOk_by (N := N__law_is_right) (sc := defScope st__law_is_right) (own := [("p", 10), ("rank", 11)]) (by decide +kernel)) (fun s H C cl fp => (gw_tup rfl (gws_cons (gw_name 10 sc__law_is_right.nd (by decide)) (gws_cons (gw_name 11 sc__law_is_right.nd (by decide)) gws_nil)))) (fun s H C cl fp => (tvs_one (tv_cmp op_eq od_eq (ev_var 11) (ev_add (ev_var 10) ev_int) (nomark _)))) (fun s H C cl fp => (ev_var 10)))) av_nil)) (ev_var 4) (nomark _)) (bv_one (sv_ret ev_bl)) bv_nil) (bv_cons (sv_set 9 sc__law_is_right.nd (ev_add (ev_var 2) (ev_callM (i := 0) (h__law_draw.mono (by decide)) hr rfl (by first | exact Or.inl rfl | exact Or.inr (Or.inl rfl) | exact Or.inr (Or.inr rfl)) (av_cons ev_int av_nil)))) (bv_cons (sv_if (tv_not (tv_val (ev_all rfl f_all (av_cons (lv_ev (lv_lc (own := [("p", 10)]) rfl sc__law_is_right.nd (iv_tup (ev_var 4)) (blkOk_by (N := N__law_is_right) (sc := defScope st__law_is_right) (own := [("p", 10)]) (by decide +kernel)) (fun s H C cl fp => (gw_name 10 sc__law_is_right.nd (by decide))) (fun s H C cl fp => tvs_nil) (fun s H C cl fp => (ev_cmp op_in_seq od_in (ev_var 10) (ev_call (h_full_primes.mono (by decide)) hr (av_cons (ev_var 1) (av_cons (ev_var 9) av_nil))) rfl)))) av_nil)))) (bv_one (sv_ret ev_bl)) bv_nil) (bv_one (sv_ret (ev_cmp op_ge od_ge (ev_call (h_first_without.mono (by decide)) hr (av_cons (ev_var 1) (av_cons (ev_var 9) av_nil))) (ev_var 8) (nomark _)))))))))))))))))
theorem dv_law (d : Def K mg "law" st_law ["script"]) (f_range : mg "range" = none) (f_repr : mg "repr" = none) (h__law_is_right : Has P w K mg base L2.CX0 "_law_is_right" 7 (spM K ct__law_is_right)) (h__law_draw : Has P w K mg base L2.CX0 "_law_draw" 1 (spM K ct__law_draw)) (h_double_primes : Has P w K mg base L2.CX0 "double_primes" 6 (spC K ct_double_primes)) (h_first_without : Has P w K mg base L2.CX0 "first_without" 6 (spC K ct_first_without)) (h_full_primes : Has P w K mg base L2.CX0 "full_primes" 6 (spC K ct_full_primes)) (h__law_hand : Has P w K mg base L2.CX0 "_law_hand" 1 (spL K ct__law_hand)) : Has P w K mg base L2.CX0 "law" 8 (spC K ct_law) := by
  refine d.hasC sc_law ln_law fun f cdv A outer s H E hr => ⟨t_law, ?_, pu_law⟩
  exact (bv_cons (sv_setL 1 sc_law.nd (lv_call (h__law_hand.mono (by decide)) hr (av_cons (ev_var 0) av_nil))) (bv_cons (sv_setL 2 sc_law.nd (lv_lst (av_cons (ev_call (h_full_primes.mono (by decide)) hr (av_cons (ev_tup (av_cons ev_int (av_cons (ev_neg ev_int) av_nil))) (av_cons ev_int av_nil))) (av_cons (ev_call (h_first_without.mono (by decide)) hr (av_cons (ev_tup (av_cons ev_int (av_cons (ev_neg ev_int) av_nil))) (av_cons ev_int av_nil))) (av_cons (ev_call (h_double_primes.mono (by decide)) hr (av_cons (ev_tup (av_cons ev_int (av_cons (ev_neg ev_int) av_nil))) (av_cons ev_int av_nil))) av_nil))))) (bv_cons (sv_setL 2 sc_law.nd (lv_cat (ev_nm 2) (lv_ev (lv_lst (av_cons (ev_call (h_full_primes.mono (by decide)) hr (av_cons (ev_tup (av_cons ev_int (av_cons ev_int av_nil))) (av_cons ev_int av_nil))) (av_cons (ev_call (h_first_without.mono (by decide)) hr (av_cons (ev_tup (av_cons ev_int (av_cons ev_int av_nil))) (av_cons ev_int av_nil))) (av_cons (ev_call (h_double_primes.mono (by decide)) hr (av_cons (ev_tup (av_cons ev_int (av_cons ev_int av_nil))) (av_cons ev_int av_nil))) av_nil))))))) (bv_cons (sv_if (tv_cmp op_ne od_ne (ev_repr hr f_repr (av_cons (ev_nm 2) av_nil)) (ev_repr hr f_repr (av_cons (lv_ev (lv_lst (av_cons (ev_tup (av_cons ev_int (av_cons ev_int (av_cons ev_int (av_cons ev_int av_nil))))) (av_cons ev_int (av_cons (ev_tup av_nil) (av_cons (ev_tup av_nil) (av_cons ev_int (av_cons (ev_tup av_nil) av_nil)))))))) av_nil)) (nomark _)) (bv_one (sv_ret ev_bl)) bv_nil) (bv_cons (sv_for PassesOwn.never rfl (iv_range1 f_range ev_int) (gv_name 3 sc_law.nd) (bv_cons (sv_set 4 sc_law.nd (ev_tup (av_cons (ev_sub (ev_callM (i := 1) (h__law_draw.mono (by decide)) hr rfl (by first | exact Or.inl rfl | exact Or.inr (Or.inl rfl) | exact Or.inr (Or.inr rfl)) (av_cons ev_int av_nil)) ev_int) (av_cons (ev_sub (ev_callM (i := 1) (h__law_draw.mono (by decide)) hr rfl (by first | exact Or.inl rfl | exact Or.inr (Or.inl rfl) | exact Or.inr (Or.inr rfl)) (av_cons ev_int av_nil)) ev_int) av_nil)))) (bv_cons (sv_if (tv_cmp op_eq od_eq (ev_callM (i := 1) (h__law_draw.mono (by decide)) hr rfl (by first | exact Or.inl rfl | exact Or.inr (Or.inl rfl) | exact Or.inr (Or.inr rfl)) (av_cons ev_int av_nil)) ev_int (nomark _)) (bv_one (sv_set 4 sc_law.nd (ev_tup (av_cons (ev_sub (ev_callM (i := 1) (h__law_draw.mono (by decide)) hr rfl (by first | exact Or.inl rfl | exact Or.inr (Or.inl rfl) | exact Or.inr (Or.inr rfl)) (av_cons ev_int av_nil)) ev_int) (av_cons (ev_sub (ev_callM (i := 1) (h__law_draw.mono (by decide)) hr rfl (by first | exact Or.inl rfl | exact Or.inr (Or.inl rfl) | exact Or.inr (Or.inr rfl)) (av_cons ev_int av_nil)) ev_int) av_nil))))) bv_nil) (bv_one (sv_if (tv_not (tv_val (ev_callM (i := 1) (h__law_is_right.mono (by decide)) hr rfl (by first | exact Or.inl rfl | exact Or.inr (Or.inl rfl) | exact Or.inr (Or.inr rfl)) (av_cons (ev_var 4) av_nil)))) (bv_one (sv_ret ev_bl)) bv_nil))))) (bv_one (sv_ret ev_bl)))))))
end
end K84

namespace K84
open PySem PySem.Spec L2 PD PyProof.Rows
def dfs : List He.DefD := [⟨("is_integer", none), "is_integer", "is_integer", defArgs st_is_integer, defBody st_is_integer, defScope st_is_integer, [], []⟩, ⟨("is_within", none), "is_within", "is_within", defArgs st_is_within, defBody st_is_within, defScope st_is_within, [], []⟩, ⟨("is_base", none), "is_base", "is_base", defArgs st_is_base, defBody st_is_base, defScope st_is_base, [], []⟩, ⟨("check_base", none), "check_base", "check_base", defArgs st_check_base, defBody st_check_base, defScope st_check_base, [], []⟩, ⟨("check_number", none), "check_number", "check_number", defArgs st_check_number, defBody st_check_number, defScope st_check_number, [], []⟩, ⟨("next_left", none), "next_left", "next_left", defArgs st_next_left, defBody st_next_left, defScope st_next_left, [], []⟩, ⟨("bits_of", none), "bits_of", "bits_of", defArgs st_bits_of, defBody st_bits_of, defScope st_bits_of, [], []⟩, ⟨("raw_left", none), "raw_left", "raw_left", defArgs st_raw_left, defBody st_raw_left, defScope st_raw_left, [], []⟩, ⟨("primes_of", none), "primes_of", "primes_of", defArgs st_primes_of, defBody st_primes_of, defScope st_primes_of, [], []⟩, ⟨("raw_rank", none), "raw_rank", "raw_rank", defArgs st_raw_rank, defBody st_raw_rank, defScope st_raw_rank, [], []⟩, ⟨("has_left", none), "has_left", "has_left", defArgs st_has_left, defBody st_has_left, defScope st_has_left, [], []⟩, ⟨("prime_rank", none), "prime_rank", "prime_rank", defArgs st_prime_rank, defBody st_prime_rank, defScope st_prime_rank, [], []⟩, ⟨("rank_list", none), "rank_list", "rank_list", defArgs st_rank_list, defBody st_rank_list, defScope st_rank_list, [], []⟩, ⟨("is_prime", none), "is_prime", "is_prime", defArgs st_is_prime, defBody st_is_prime, defScope st_is_prime, [], []⟩, ⟨("listed", none), "listed", "listed", defArgs st_listed, defBody st_listed, defScope st_listed, [], []⟩, ⟨("check_listed", none), "check_listed", "check_listed", defArgs st_check_listed, defBody st_check_listed, defScope st_check_listed, [], []⟩, ⟨("ranks_to", none), "ranks_to", "ranks_to", defArgs st_ranks_to, defBody st_ranks_to, defScope st_ranks_to, [], []⟩, ⟨("full_primes", none), "full_primes", "full_primes", defArgs st_full_primes, defBody st_full_primes, defScope st_full_primes, [], []⟩, ⟨("double_primes", none), "double_primes", "double_primes", defArgs st_double_primes, defBody st_double_primes, defScope st_double_primes, [], []⟩, ⟨("first_without", none), "first_without", "first_without", defArgs st_first_without, defBody st_first_without, defScope st_first_without, [], []⟩, ⟨("_law_hand", none), "_law_hand", "_law_hand", defArgs st__law_hand, defBody st__law_hand, defScope st__law_hand, [], []⟩, ⟨("_law_draw", none), "_law_draw", "_law_draw", defArgs st__law_draw, defBody st__law_draw, defScope st__law_draw, [], []⟩, ⟨("_law_some", none), "_law_some", "_law_some", defArgs st__law_some, defBody st__law_some, defScope st__law_some, [], []⟩, ⟨("_law_is_prime", none), "_law_is_prime", "_law_is_prime", defArgs st__law_is_prime, defBody st__law_is_prime, defScope st__law_is_prime, [], []⟩, ⟨("_law_rank", none), "_law_rank", "_law_rank", defArgs st__law_rank, defBody st__law_rank, defScope st__law_rank, [], []⟩, ⟨("_law_ranks", none), "_law_ranks", "_law_ranks", defArgs st__law_ranks, defBody st__law_ranks, defScope st__law_ranks, [], []⟩, ⟨("_law_is_right", none), "_law_is_right", "_law_is_right", defArgs st__law_is_right, defBody st__law_is_right, defScope st__law_is_right, [], []⟩, ⟨("law", none), "law", "law", defArgs st_law, defBody st_law, defScope st_law, [], []⟩]
def fcs : List He.Fa := [.glo "is_integer", .glo "is_within", .glo "is_base", .glo "check_base", .glo "check_number", .glo "next_left", .glo "bits_of", .glo "raw_left", .glo "primes_of", .glo "raw_rank", .glo "has_left", .glo "prime_rank", .glo "rank_list", .glo "is_prime", .glo "listed", .glo "check_listed", .glo "ranks_to", .glo "full_primes", .glo "double_primes", .glo "first_without", .glo "_law_hand", .glo "_law_draw", .glo "_law_some", .glo "_law_is_prime", .glo "_law_rank", .glo "_law_ranks", .glo "_law_is_right", .glo "law", .free "isinstance", .free "int", .free "bool", .free "all", .free "tuple", .free "len", .free "range", .free "abs", .free "repr", .int "MOST_BASE" 100, .int "MOST_SMALL" 1000, .int "MOST_LISTED" 2000]
abbrev Rw : PySem.W.OpenRow := PySem.W.OpenLaw.row PySem.Challenge.rw_rankrows_k84_whole_full_and_double_prime
abbrev hk : PySem.W.Hook := He.hookD 4 fcs dfs
def seen (s : PySem.W.SharedT) : He.AlD := He.obsDG 4 fcs dfs (HandSHeadRun.getT s)
theorem seen_eq (s : PySem.W.SharedT) : seen s = hk.obs s.abs := He.obsDG_eq (HandSHeadRun.getT_eq s)
theorem runs (w : World) : HandSHeadRun.RunEq Rw (PySem.W.view Rw.prog [42]) hk seen 4000 ((["RankError", "NoBase", "NoNumber", "MOST_BASE", "is_integer", "is_within", "is_base", "check_base", "check_number", "raw_gap", "next_left", "raw_left", "bits_of", "MOST_SMALL", "primes_of", "raw_rank", "has_left", "lessened", "prime_rank", "rank_list", "raw_sign", "is_prime", "MOST_LISTED", "listed", "check_listed", "ranks_to", "full_primes", "double_primes", "first_without", "_law_hand"] : List PySem.Str) ++ (["_law_draw", "_law_some", "_law_is_prime", "_law_rank", "_law_ranks", "_law_is_right"] : List PySem.Str)) w := by
  intro os
  kernel_rfl
theorem facts {P : Program} {w : World} {K : PySem.W.Frag} {h : Heap} {mg : Str → Option Value} (X : K.In h) (G : h.Ns mainGlobals mg) (c : He.SaysD fcs dfs K) : ∀ base : Heap, K.In base → base.Ns mainGlobals mg → Has P w K mg base L2.CX0 "law" 8 (spC K (lawC 63)) := by
  intro base _ _
  obtain ⟨_, F_is_integer⟩ := c.def_ 0 rfl
  have d_is_integer : Def K mg "is_integer" st_is_integer ["thing"] := def_of F_is_integer (He.glo_ok X G (c.fact 0 (f := .glo "is_integer") rfl)) fun _ _ _ _ _ _ us hl => match us, hl with | [_], _ => rfl
  obtain ⟨_, F_is_within⟩ := c.def_ 1 rfl
  have d_is_within : Def K mg "is_within" st_is_within ["thing", "low", "high"] := def_of F_is_within (He.glo_ok X G (c.fact 1 (f := .glo "is_within") rfl)) fun _ _ _ _ _ _ us hl => match us, hl with | [_, _, _], _ => rfl
  obtain ⟨_, F_is_base⟩ := c.def_ 2 rfl
  have d_is_base : Def K mg "is_base" st_is_base ["thing"] := def_of F_is_base (He.glo_ok X G (c.fact 2 (f := .glo "is_base") rfl)) fun _ _ _ _ _ _ us hl => match us, hl with | [_], _ => rfl
  obtain ⟨_, F_check_base⟩ := c.def_ 3 rfl
  have d_check_base : Def K mg "check_base" st_check_base ["thing"] := def_of F_check_base (He.glo_ok X G (c.fact 3 (f := .glo "check_base") rfl)) fun _ _ _ _ _ _ us hl => match us, hl with | [_], _ => rfl
  obtain ⟨_, F_check_number⟩ := c.def_ 4 rfl
  have d_check_number : Def K mg "check_number" st_check_number ["thing", "low", "high"] := def_of F_check_number (He.glo_ok X G (c.fact 4 (f := .glo "check_number") rfl)) fun _ _ _ _ _ _ us hl => match us, hl with | [_, _, _], _ => rfl
  obtain ⟨_, F_next_left⟩ := c.def_ 5 rfl
  have d_next_left : Def K mg "next_left" st_next_left ["base", "here", "by"] := def_of F_next_left (He.glo_ok X G (c.fact 5 (f := .glo "next_left") rfl)) fun _ _ _ _ _ _ us hl => match us, hl with | [_, _, _], _ => rfl
  obtain ⟨_, F_bits_of⟩ := c.def_ 6 rfl
  have d_bits_of : Def K mg "bits_of" st_bits_of ["number"] := def_of F_bits_of (He.glo_ok X G (c.fact 6 (f := .glo "bits_of") rfl)) fun _ _ _ _ _ _ us hl => match us, hl with | [_], _ => rfl
  obtain ⟨_, F_raw_left⟩ := c.def_ 7 rfl
  have d_raw_left : Def K mg "raw_left" st_raw_left ["base", "n", "by"] := def_of F_raw_left (He.glo_ok X G (c.fact 7 (f := .glo "raw_left") rfl)) fun _ _ _ _ _ _ us hl => match us, hl with | [_, _, _], _ => rfl
  obtain ⟨_, F_primes_of⟩ := c.def_ 8 rfl
  have d_primes_of : Def K mg "primes_of" st_primes_of ["number"] := def_of F_primes_of (He.glo_ok X G (c.fact 8 (f := .glo "primes_of") rfl)) fun _ _ _ _ _ _ us hl => match us, hl with | [_], _ => rfl
  obtain ⟨_, F_raw_rank⟩ := c.def_ 9 rfl
  have d_raw_rank : Def K mg "raw_rank" st_raw_rank ["base", "by"] := def_of F_raw_rank (He.glo_ok X G (c.fact 9 (f := .glo "raw_rank") rfl)) fun _ _ _ _ _ _ us hl => match us, hl with | [_, _], _ => rfl
  obtain ⟨_, F_has_left⟩ := c.def_ 10 rfl
  have d_has_left : Def K mg "has_left" st_has_left ["base", "n", "by"] := def_of F_has_left (He.glo_ok X G (c.fact 10 (f := .glo "has_left") rfl)) fun _ _ _ _ _ _ us hl => match us, hl with | [_, _, _], _ => rfl
  obtain ⟨_, F_prime_rank⟩ := c.def_ 11 rfl
  have d_prime_rank : Def K mg "prime_rank" st_prime_rank ["base", "p"] := def_of F_prime_rank (He.glo_ok X G (c.fact 11 (f := .glo "prime_rank") rfl)) fun _ _ _ _ _ _ us hl => match us, hl with | [_, _], _ => rfl
  obtain ⟨_, F_rank_list⟩ := c.def_ 12 rfl
  have d_rank_list : Def K mg "rank_list" st_rank_list ["base", "p", "many"] := def_of F_rank_list (He.glo_ok X G (c.fact 12 (f := .glo "rank_list") rfl)) fun _ _ _ _ _ _ us hl => match us, hl with | [_, _, _], _ => rfl
  obtain ⟨_, F_is_prime⟩ := c.def_ 13 rfl
  have d_is_prime : Def K mg "is_prime" st_is_prime ["number"] := def_of F_is_prime (He.glo_ok X G (c.fact 13 (f := .glo "is_prime") rfl)) fun _ _ _ _ _ _ us hl => match us, hl with | [_], _ => rfl
  obtain ⟨_, F_listed⟩ := c.def_ 14 rfl
  have d_listed : Def K mg "listed" st_listed ["base", "most"] := def_of F_listed (He.glo_ok X G (c.fact 14 (f := .glo "listed") rfl)) fun _ _ _ _ _ _ us hl => match us, hl with | [_, _], _ => rfl
  obtain ⟨_, F_check_listed⟩ := c.def_ 15 rfl
  have d_check_listed : Def K mg "check_listed" st_check_listed ["base", "most"] := def_of F_check_listed (He.glo_ok X G (c.fact 15 (f := .glo "check_listed") rfl)) fun _ _ _ _ _ _ us hl => match us, hl with | [_, _], _ => rfl
  obtain ⟨_, F_ranks_to⟩ := c.def_ 16 rfl
  have d_ranks_to : Def K mg "ranks_to" st_ranks_to ["base", "most"] := def_of F_ranks_to (He.glo_ok X G (c.fact 16 (f := .glo "ranks_to") rfl)) fun _ _ _ _ _ _ us hl => match us, hl with | [_, _], _ => rfl
  obtain ⟨_, F_full_primes⟩ := c.def_ 17 rfl
  have d_full_primes : Def K mg "full_primes" st_full_primes ["base", "most"] := def_of F_full_primes (He.glo_ok X G (c.fact 17 (f := .glo "full_primes") rfl)) fun _ _ _ _ _ _ us hl => match us, hl with | [_, _], _ => rfl
  obtain ⟨_, F_double_primes⟩ := c.def_ 18 rfl
  have d_double_primes : Def K mg "double_primes" st_double_primes ["base", "most"] := def_of F_double_primes (He.glo_ok X G (c.fact 18 (f := .glo "double_primes") rfl)) fun _ _ _ _ _ _ us hl => match us, hl with | [_, _], _ => rfl
  obtain ⟨_, F_first_without⟩ := c.def_ 19 rfl
  have d_first_without : Def K mg "first_without" st_first_without ["base", "most"] := def_of F_first_without (He.glo_ok X G (c.fact 19 (f := .glo "first_without") rfl)) fun _ _ _ _ _ _ us hl => match us, hl with | [_, _], _ => rfl
  obtain ⟨_, F__law_hand⟩ := c.def_ 20 rfl
  have d__law_hand : Def K mg "_law_hand" st__law_hand ["script"] := def_of F__law_hand (He.glo_ok X G (c.fact 20 (f := .glo "_law_hand") rfl)) fun _ _ _ _ _ _ us hl => match us, hl with | [_], _ => rfl
  obtain ⟨_, F__law_draw⟩ := c.def_ 21 rfl
  have d__law_draw : Def K mg "_law_draw" st__law_draw ["hand", "many"] := def_of F__law_draw (He.glo_ok X G (c.fact 21 (f := .glo "_law_draw") rfl)) fun _ _ _ _ _ _ us hl => match us, hl with | [_, _], _ => rfl
  obtain ⟨_, F__law_some⟩ := c.def_ 22 rfl
  have d__law_some : Def K mg "_law_some" st__law_some ["hand", "things"] := def_of F__law_some (He.glo_ok X G (c.fact 22 (f := .glo "_law_some") rfl)) fun _ _ _ _ _ _ us hl => match us, hl with | [_, _], _ => rfl
  obtain ⟨_, F__law_is_prime⟩ := c.def_ 23 rfl
  have d__law_is_prime : Def K mg "_law_is_prime" st__law_is_prime ["number"] := def_of F__law_is_prime (He.glo_ok X G (c.fact 23 (f := .glo "_law_is_prime") rfl)) fun _ _ _ _ _ _ us hl => match us, hl with | [_], _ => rfl
  obtain ⟨_, F__law_rank⟩ := c.def_ 24 rfl
  have d__law_rank : Def K mg "_law_rank" st__law_rank ["base", "by", "most"] := def_of F__law_rank (He.glo_ok X G (c.fact 24 (f := .glo "_law_rank") rfl)) fun _ _ _ _ _ _ us hl => match us, hl with | [_, _, _], _ => rfl
  obtain ⟨_, F__law_ranks⟩ := c.def_ 25 rfl
  have d__law_ranks : Def K mg "_law_ranks" st__law_ranks ["base", "most"] := def_of F__law_ranks (He.glo_ok X G (c.fact 25 (f := .glo "_law_ranks") rfl)) fun _ _ _ _ _ _ us hl => match us, hl with | [_, _], _ => rfl
  obtain ⟨_, F__law_is_right⟩ := c.def_ 26 rfl
  have d__law_is_right : Def K mg "_law_is_right" st__law_is_right ["hand", "base"] := def_of F__law_is_right (He.glo_ok X G (c.fact 26 (f := .glo "_law_is_right") rfl)) fun _ _ _ _ _ _ us hl => match us, hl with | [_, _], _ => rfl
  obtain ⟨_, F_law⟩ := c.def_ 27 rfl
  have d_law : Def K mg "law" st_law ["script"] := def_of F_law (He.glo_ok X G (c.fact 27 (f := .glo "law") rfl)) fun _ _ _ _ _ _ us hl => match us, hl with | [_], _ => rfl
  have f_isinstance := He.free_ok X G (c.fact 28 (f := .free "isinstance") rfl)
  have f_int := He.free_ok X G (c.fact 29 (f := .free "int") rfl)
  have f_bool := He.free_ok X G (c.fact 30 (f := .free "bool") rfl)
  have f_all := He.free_ok X G (c.fact 31 (f := .free "all") rfl)
  have f_tuple := He.free_ok X G (c.fact 32 (f := .free "tuple") rfl)
  have f_len := He.free_ok X G (c.fact 33 (f := .free "len") rfl)
  have f_range := He.free_ok X G (c.fact 34 (f := .free "range") rfl)
  have f_abs := He.free_ok X G (c.fact 35 (f := .free "abs") rfl)
  have f_repr := He.free_ok X G (c.fact 36 (f := .free "repr") rfl)
  obtain ⟨_, g_MOST_BASE⟩ := He.int_ok X G (c.fact 37 (f := .int "MOST_BASE" 100) rfl)
  obtain ⟨_, g_MOST_SMALL⟩ := He.int_ok X G (c.fact 38 (f := .int "MOST_SMALL" 1000) rfl)
  obtain ⟨_, g_MOST_LISTED⟩ := He.int_ok X G (c.fact 39 (f := .int "MOST_LISTED" 2000) rfl)
  have h_is_integer := dv_is_integer (P := P) (w := w) (base := base) d_is_integer f_isinstance f_int f_bool
  have h_is_within := dv_is_within (P := P) (w := w) (base := base) d_is_within h_is_integer
  have h_is_base := dv_is_base (P := P) (w := w) (base := base) d_is_base f_all f_isinstance f_tuple f_len g_MOST_BASE h_is_within
  have h_check_base := dv_check_base (P := P) (w := w) (base := base) d_check_base h_is_base
  have h_check_number := dv_check_number (P := P) (w := w) (base := base) d_check_number h_is_within
  have h_next_left := dv_next_left (P := P) (w := w) (base := base) d_next_left
  have h_bits_of := dv_bits_of (P := P) (w := w) (base := base) d_bits_of
  have h_raw_left := dv_raw_left (P := P) (w := w) (base := base) d_raw_left h_bits_of
  have h_primes_of := dv_primes_of (P := P) (w := w) (base := base) d_primes_of
  have h_raw_rank := dv_raw_rank (P := P) (w := w) (base := base) d_raw_rank h_next_left
  have h_has_left := dv_has_left (P := P) (w := w) (base := base) d_has_left h_raw_left
  have h_prime_rank := dv_prime_rank (P := P) (w := w) (base := base) d_prime_rank g_MOST_SMALL h_raw_rank
  have h_rank_list := dv_rank_list (P := P) (w := w) (base := base) d_rank_list f_range h_has_left h_prime_rank
  have h_is_prime := dv_is_prime (P := P) (w := w) (base := base) d_is_prime h_primes_of
  have h_listed := dv_listed (P := P) (w := w) (base := base) d_listed f_range h_is_prime
  have h_check_listed := dv_check_listed (P := P) (w := w) (base := base) d_check_listed g_MOST_LISTED h_check_number h_check_base
  have h_ranks_to := dv_ranks_to (P := P) (w := w) (base := base) d_ranks_to f_tuple h_listed h_prime_rank h_check_listed
  have h_full_primes := dv_full_primes (P := P) (w := w) (base := base) d_full_primes f_tuple h_listed h_prime_rank h_check_listed
  have h_double_primes := dv_double_primes (P := P) (w := w) (base := base) d_double_primes f_tuple h_listed h_rank_list h_prime_rank h_check_listed
  have h_first_without := dv_first_without (P := P) (w := w) (base := base) d_first_without h_listed h_prime_rank h_check_listed
  have h__law_hand := dv__law_hand (P := P) (w := w) (base := base) d__law_hand f_int f_abs f_len
  have h__law_draw := dv__law_draw (P := P) (w := w) (base := base) d__law_draw f_int f_len
  have h__law_some := dv__law_some (P := P) (w := w) (base := base) d__law_some f_len h__law_draw
  have h__law_is_prime := dv__law_is_prime (P := P) (w := w) (base := base) d__law_is_prime f_int
  have h__law_rank := dv__law_rank (P := P) (w := w) (base := base) d__law_rank f_range f_int
  have h__law_ranks := dv__law_ranks (P := P) (w := w) (base := base) d__law_ranks f_int f_range h__law_rank h__law_is_prime
  have h__law_is_right := dv__law_is_right (P := P) (w := w) (base := base) d__law_is_right f_all f_tuple f_repr f_range f_len h_first_without h_full_primes h__law_draw h_ranks_to h_double_primes h__law_rank h__law_ranks h__law_some
  have h_law := dv_law (P := P) (w := w) (base := base) d_law f_range f_repr h__law_is_right h__law_draw h_double_primes h_first_without h_full_primes h__law_hand
  exact h_law
end K84
open PySem PySem.W PySem.Calls PyProof.Rows
theorem PySem.Challenge.cw_rankrows_k84_whole_full_and_double_prime_holds : PySem.Challenge.rw_rankrows_k84_whole_full_and_double_prime.Holds := by
  w_on; o_law
  refine HandSHeadRun.head_any (r := (OpenLaw.row PySem.Challenge.rw_rankrows_k84_whole_full_and_double_prime)) (q := view (OpenLaw.row PySem.Challenge.rw_rankrows_k84_whole_full_and_double_prime).prog [42]) (H := K84.hk) (ob := K84.seen) (M := 4000) (loose := ((["RankError", "NoBase", "NoNumber", "MOST_BASE", "is_integer", "is_within", "is_base", "check_base", "check_number", "raw_gap", "next_left", "raw_left", "bits_of", "MOST_SMALL", "primes_of", "raw_rank", "has_left", "lessened", "prime_rank", "rank_list", "raw_sign", "is_prime", "MOST_LISTED", "listed", "check_listed", "ranks_to", "full_primes", "double_primes", "first_without", "_law_hand"] : List PySem.Str) ++ (["_law_draw", "_law_some", "_law_is_prime", "_law_rank", "_law_ranks", "_law_is_right"] : List PySem.Str))) (d := HandSHeadRun.topDef (OpenLaw.row PySem.Challenge.rw_rankrows_k84_whole_full_and_double_prime).prog 42) (kwd := []) K84.seen_eq
    (by kernel_rfl) (fun s => by kernel_rfl) K84.runs (by kernel_rfl) (by kernel_rfl) (by kernel_rfl) (by rfl) (by first | assumption | decide +kernel) (by decide +kernel) ⟨rfl, rfl, rfl, rfl, rfl, by decide +kernel⟩ ?hw ?hc
  case hw => w_witness2
  case hc =>
    refine PD.law_end (l := PySem.Challenge.rw_rankrows_k84_whole_full_and_double_prime) (n := 63) (k := 8) rfl (by decide) (by kernel_rfl) ⟨⟨rfl, by decide, by decide⟩, rfl⟩ ?_
    intro w mg h Y G
    obtain ⟨K, KX, c⟩ := Y
    refine ⟨K, KX, ?_⟩
    have e : (HandSHeadRun.topDef (OpenLaw.row PySem.Challenge.rw_rankrows_k84_whole_full_and_double_prime).prog 42).name = ("law" : PySem.Str) := by kernel_rfl
    rw [e]
    exact K84.facts KX G c
