import PyProof.Rows.All
import HandS.ForMost
import HandS.ForExc
import HandS.CallSlots
import HandS.TupAny
import HandS.Deep
import HandS.IsInst
import HandS.Wide
import HandS.Lambda
import KE.DataEq
import KE.SortKeyHeap
import KE.SortData
import HandS.More
import KE.DataCmp
import HandS.ExcField
import HandS.ExcIs
import HandS.HeadHook4
import HandS.DictTup
import KE.GoesEnum
import HandS.Zip
import HandS.ExcOwn
import HandS.Head2
import HandS.HeadWalk
import Wide.All
import OpenK.AllK
import Wide.FinOn
import KE.KStateDown
import Lean
import HandS.HeadEnd
import PySem.Challenge.RW_sameshape_k76_kinds_of_contents
set_option Elab.async false
set_option linter.all false
set_option maxRecDepth 100000
namespace DL
open PySem PySem.Spec PyProof.Rows L2

inductive D where
  | non | bl (b : Bool) | int (i : Int) | str (x : Str) | tup (ds : List D) | rol (ds : List D) | ref (n : Nat) | glo (v : V)

inductive OD where
  | lst (ds : List D) | dct (kvs : List (D × D)) | ins (c : Nat) (fs : List (Str × D))

abbrev Hd := List OD
abbrev Sd := List (Option D)
structure Exn where
  cls : Nat
  fs : List (Str × D)
inductive Res (α : Type) where
  | ok (a : α) (h : Hd) | ex (x : Exn) (h : Hd) | bad
def Res.bind {α β : Type} : Res α → (α → Hd → Res β) → Res β
  | .ok a h, f => f a h
  | .ex x h, _ => .ex x h
  | .bad, _ => .bad
@[simp] theorem Res.bind_ok {α β : Type} (a : α) (h : Hd) (f : α → Hd → Res β) : (Res.ok a h).bind f = f a h := rfl
@[simp] theorem Res.bind_ex {α β : Type} (x : Exn) (h : Hd) (f : α → Hd → Res β) : (Res.ex x h : Res α).bind f = .ex x h := rfl
@[simp] theorem Res.bind_bad {α β : Type} (f : α → Hd → Res β) : (Res.bad : Res α).bind f = .bad := rfl

/-- the written part and the classes' places -/
structure Gd where
  K : PySem.W.Frag
  cl : Nat → Option Addr
  T : List (Addr × Str) := []

/-- a read-only list -/
def RoL (K : PySem.W.Frag) (H : Hp) (a : Addr) (xs : List V) : Prop :=
  (∃ o, H a = some (.frz o (.lst xs))) ∨
    ∃ (o : Obj) (its : Array Value) (n : Nat), K.lookup a = some o ∧ o.cls = .type "list" ∧ o.dict = none ∧ o.data = .seq its n ∧ its.size ≤ sizeLine ∧ Vals xs its.toList
theorem RoL.sq {K : PySem.W.Frag} {H : Hp} {a : Addr} {xs : List V} (h : RoL K H a xs) : SqL K H a xs := by
  rcases h with ⟨o, h⟩ | h
  · exact .inl (.inr ⟨o, h⟩)
  · exact .inr h

mutual
inductive DV (K : PySem.W.Frag) (H : Hp) (m : List Addr) : V → D → Prop
  | non : DV K H m .non .non
  | bl (b : Bool) : DV K H m (.bl b) (.bl b)
  | int (i : Int) : DV K H m (.int i) (.int i)
  | str (x : Str) : DV K H m (.str x) (.str x)
  | tup {a : Addr} {xs : List V} {ds : List D} : SqT K H a xs → DVs K H m xs ds → DV K H m (.ref a) (.tup ds)
  | rol {a : Addr} {xs : List V} {ds : List D} : RoL K H a xs → DVs K H m xs ds → DV K H m (.ref a) (.rol ds)
  | ref {a : Addr} {n : Nat} : m[n]? = some a → DV K H m (.ref a) (.ref n)
  | glo (v : V) : DV K H m v (.glo v)
inductive DVs (K : PySem.W.Frag) (H : Hp) (m : List Addr) : List V → List D → Prop
  | nil : DVs K H m [] []
  | cons {v : V} {d : D} {vs : List V} {ds : List D} : DV K H m v d → DVs K H m vs ds → DVs K H m (v :: vs) (d :: ds)
end

section
variable {K : PySem.W.Frag} {H H' : Hp} {m m' : List Addr}
theorem DVs.length : ∀ {xs : List V} {ds : List D}, DVs K H m xs ds → xs.length = ds.length
  | _, _, .nil => rfl
  | _, _, .cons _ t => congrArg (· + 1) t.length
theorem DVs.get : ∀ {xs : List V} {ds : List D} {i : Nat} {d : D}, DVs K H m xs ds → ds[i]? = some d → ∃ v, xs[i]? = some v ∧ DV K H m v d
  | _, _, _, _, .nil, e => by simp at e
  | _, _, 0, _, .cons r _, e => by simp at e; subst e; exact ⟨_, rfl, r⟩
  | _, _, i + 1, d, .cons _ t, e => by
    obtain ⟨u, h1, h2⟩ := DVs.get (i := i) (d := d) t (by simpa using e)
    exact ⟨u, by simpa using h1, h2⟩
theorem DVs.get' : ∀ {xs : List V} {ds : List D} {i : Nat} {v : V}, DVs K H m xs ds → xs[i]? = some v → ∃ d, ds[i]? = some d ∧ DV K H m v d
  | _, _, _, _, .nil, e => by simp at e
  | _, _, 0, _, .cons r _, e => by simp at e; subst e; exact ⟨_, rfl, r⟩
  | _, _, i + 1, d, .cons _ t, e => by
    obtain ⟨u, h1, h2⟩ := DVs.get' (i := i) (v := d) t (by simpa using e)
    exact ⟨u, by simpa using h1, h2⟩
theorem DVs.append : ∀ {xs ys : List V} {ds es : List D}, DVs K H m xs ds → DVs K H m ys es → DVs K H m (xs ++ ys) (ds ++ es)
  | _, _, _, _, .nil, s => s
  | _, _, _, _, .cons r t, s => .cons r (t.append s)
theorem DVs.take : ∀ {xs : List V} {ds : List D} (n : Nat), DVs K H m xs ds → DVs K H m (xs.take n) (ds.take n)
  | _, _, 0, _ => .nil
  | _, _, _ + 1, .nil => .nil
  | _, _, n + 1, .cons r t => .cons r (t.take n)
theorem DVs.drop : ∀ {xs : List V} {ds : List D} (n : Nat), DVs K H m xs ds → DVs K H m (xs.drop n) (ds.drop n)
  | _, _, 0, r => r
  | _, _, _ + 1, .nil => .nil
  | _, _, n + 1, .cons _ t => t.drop n
theorem DVs.set {v : V} {d : D} (r : DV K H m v d) : ∀ {xs : List V} {ds : List D} (i : Nat), DVs K H m xs ds → DVs K H m (xs.set i v) (ds.set i d)
  | _, _, _, .nil => .nil
  | _, _, 0, .cons _ t => .cons r t
  | _, _, i + 1, .cons q t => .cons q (t.set r i)
theorem DVs.rep {xs : List V} {ds : List D} (r : DVs K H m xs ds) : ∀ n : Nat, DVs K H m (List.replicate n xs).flatten (List.replicate n ds).flatten
  | 0 => .nil
  | n + 1 => by simp only [List.replicate_succ, List.flatten_cons]; exact r.append (DVs.rep r n)
theorem DVs.nth {xs : List V} {ds : List D} (h : xs.length = ds.length) (f : ∀ (i : Nat) v d, xs[i]? = some v → ds[i]? = some d → DV K H m v d) : DVs K H m xs ds := by
  induction xs generalizing ds with
  | nil => cases ds with
    | nil => exact .nil
    | cons _ _ => cases h
  | cons x xs ih => cases ds with
    | nil => cases h
    | cons d ds => exact .cons (f 0 x d rfl rfl) (ih (by simpa using h) fun i v d e1 e2 => f (i + 1) v d (by simpa using e1) (by simpa using e2))

/-- what stays: tuples, read-only lists, places -/
structure Stay (K : PySem.W.Frag) (H : Hp) (m : List Addr) (H' : Hp) (m' : List Addr) : Prop where
  tup : ∀ a xs, SqT K H a xs → SqT K H' a xs
  rol : ∀ a xs, RoL K H a xs → RoL K H' a xs
  pl : ∀ (n : Nat) a, m[n]? = some a → m'[n]? = some a
mutual
theorem DV.stay (st : Stay K H m H' m') : ∀ {v : V} {d : D}, DV K H m v d → DV K H' m' v d
  | _, _, .non => .non
  | _, _, .bl b => .bl b
  | _, _, .int i => .int i
  | _, _, .str x => .str x
  | _, _, .tup h t => .tup (st.tup _ _ h) (t.stay st)
  | _, _, .rol h t => .rol (st.rol _ _ h) (t.stay st)
  | _, _, .ref e => .ref (st.pl _ _ e)
  | _, _, .glo v => .glo v
theorem DVs.stay (st : Stay K H m H' m') : ∀ {vs : List V} {ds : List D}, DVs K H m vs ds → DVs K H' m' vs ds
  | _, _, .nil => .nil
  | _, _, .cons r t => .cons (r.stay st) (t.stay st)
end
end

/-- a field list -/
def FV (K : PySem.W.Frag) (H : Hp) (m : List Addr) (fs : List (Str × V)) (gs : List (Str × D)) : Prop :=
  fs.map (·.1) = gs.map (·.1) ∧ DVs K H m (fs.map (·.2)) (gs.map (·.2))

/-- a key as data -/
def kD : Key → D
  | .inl i => .int i
  | .inr x => .str x
def OV (g : Gd) (H : Hp) (m : List Addr) (a : Addr) : OD → Prop
  | .lst ds => ∃ xs, H a = some (.lst xs) ∧ DVs g.K H m xs ds
  | .dct kvs => ∃ ks : List (Key × V), H a = some (.dK ks) ∧ kvs.map (·.1) = ks.map (fun p => kD p.1) ∧ DVs g.K H m (ks.map (·.2)) (kvs.map (·.2))
  | .ins c fs => ∃ C dx gs, g.cl c = some C ∧ H a = some (.ins C dx gs) ∧ FV g.K H m gs fs

structure Rel (g : Gd) (H : Hp) (m : List Addr) (h : Hd) : Prop where
  len : m.length = h.length
  nd : m.Nodup
  obj : ∀ (n : Nat) a o, m[n]? = some a → h[n]? = some o → OV g H m a o
  tabs : LamX.Tabs g.T H

def SV (K : PySem.W.Frag) (H : Hp) (m : List Addr) (σ : L2.St) (τ : Sd) : Prop :=
  σ.length = τ.length ∧ ∀ (i : Nat) (d : D), τ[i]? = some (some d) → ∃ v, σ[i]? = some (some v) ∧ DV K H m v d

structure Ext (H : Hp) (m : List Addr) (H' : Hp) (m' : List Addr) : Prop where
  pre : ∃ e, m' = m ++ e ∧ ∀ a ∈ e, (∀ o, H a = some o → ∃ ps, o = .tbl ps) ∧ a ∉ m
  keep : ∀ a o, a ∉ m → H a = some o → (∀ ps, o ≠ .tbl ps) → H' a = some o

section
variable {g : Gd} {H H' H1 H2 : Hp} {m m' m1 m2 : List Addr} {h h' : Hd} {a : Addr} {o : OD}
theorem Ext.refl : Ext H m H m := ⟨⟨[], by simp, fun _ z => nomatch z⟩, fun _ _ _ e _ => e⟩
theorem Ext.trans (x : Ext H m H1 m1) (y : Ext H1 m1 H2 m2) : Ext H m H2 m2 := by
  obtain ⟨e1, rfl, p1⟩ := x.pre
  obtain ⟨e2, rfl, p2⟩ := y.pre
  refine ⟨⟨e1 ++ e2, by simp, fun a ha => ?_⟩, fun a o n e t => y.keep a o (fun z => ?_) (x.keep a o n e t) t⟩
  · rcases List.mem_append.mp ha with ha | ha
    · exact p1 a ha
    · obtain ⟨q1, q2⟩ := p2 a ha
      have nm : a ∉ m := fun z => q2 (List.mem_append_left _ z)
      refine ⟨fun o e => ?_, nm⟩
      by_cases z : ∃ ps, o = .tbl ps
      · exact z
      · exact q1 o (x.keep a o nm e fun ps q => z ⟨ps, q⟩)
  · rcases List.mem_append.mp z with z | z
    · exact n z
    · obtain ⟨ps, q⟩ := (p1 a z).1 o e
      exact t ps q
theorem Ext.pl (x : Ext H m H' m') {n : Nat} (e : m[n]? = some a) : m'[n]? = some a := by
  obtain ⟨e', rfl, _⟩ := x.pre
  obtain ⟨hl, he⟩ := List.getElem?_eq_some_iff.mp e
  rw [List.getElem?_append_left hl]; exact e
theorem OV.some (x : OV g H m a o) : ∃ u, H a = some u ∧ (∀ xs, u ≠ .tup xs) ∧ (∀ ob v, u ≠ .frz ob v) ∧ (∀ ps, u ≠ .tbl ps) ∧ ∀ p, u ≠ .ext p := by
  cases o with
  | lst ds => obtain ⟨xs, e, _⟩ := x; exact ⟨_, e, fun _ z => (nomatch z), fun _ _ z => (nomatch z), fun _ z => (nomatch z), fun _ z => (nomatch z)⟩
  | dct kvs => obtain ⟨ks, e, _⟩ := x; exact ⟨_, e, fun _ z => (nomatch z), fun _ _ z => (nomatch z), fun _ z => (nomatch z), fun _ z => (nomatch z)⟩
  | ins c fs => obtain ⟨_, _, _, _, e, _⟩ := x; exact ⟨_, e, fun _ z => (nomatch z), fun _ _ z => (nomatch z), fun _ z => (nomatch z), fun _ z => (nomatch z)⟩
theorem Rel.mem (r : Rel g H m h) (ha : a ∈ m) : ∃ (n : Nat) (o : OD), m[n]? = some a ∧ h[n]? = some o ∧ OV g H m a o := by
  obtain ⟨n, hn, e⟩ := List.getElem_of_mem ha
  have e1 : m[n]? = some a := by rw [List.getElem?_eq_getElem hn, e]
  have hn' : n < h.length := r.len ▸ hn
  exact ⟨n, h[n], e1, List.getElem?_eq_getElem hn', r.obj n a _ e1 (List.getElem?_eq_getElem hn')⟩
theorem Rel.there (r : Rel g H m h) (ha : a ∈ m) : ∃ u, H a = some u ∧ (∀ xs, u ≠ .tup xs) ∧ (∀ ob v, u ≠ .frz ob v) ∧ (∀ ps, u ≠ .tbl ps) ∧ ∀ p, u ≠ .ext p := by
  obtain ⟨_, o, _, _, x⟩ := r.mem ha
  exact x.some
theorem Rel.notin (r : Rel g H m h) (hn : H a = none) : a ∉ m := fun z => by
  obtain ⟨u, e, _⟩ := r.there z
  rw [hn] at e; cases e
theorem Rel.get (r : Rel g H m h) {n : Nat} (e : h[n]? = some o) : ∃ a, m[n]? = some a ∧ OV g H m a o := by
  obtain ⟨hn, _⟩ := List.getElem?_eq_some_iff.mp e
  have hn' : n < m.length := r.len ▸ hn
  exact ⟨m[n], List.getElem?_eq_getElem hn', r.obj n _ o (List.getElem?_eq_getElem hn') e⟩
theorem Rel.inj (r : Rel g H m h) {i j : Nat} (e1 : m[i]? = some a) (e2 : m[j]? = some a) : i = j := by
  obtain ⟨h1, e1⟩ := List.getElem?_eq_some_iff.mp e1
  obtain ⟨h2, e2⟩ := List.getElem?_eq_some_iff.mp e2
  exact (List.getElem_inj r.nd).mp (e1.trans e2.symm)
/-- tuples and read-only lists stay where only what is at m is changed -/
theorem Rel.stayOf (r : Rel g H m h) (keep : ∀ a o, a ∉ m → H a = some o → (∀ ps, o ≠ .tbl ps) → H' a = some o) (pl : ∀ (n : Nat) a, m[n]? = some a → m'[n]? = some a) : Stay g.K H m H' m' where
  tup := fun a xs q => by
    rcases q with (q | ⟨o, q⟩) | q
    · exact .inl (.inl (keep _ _ (fun z => by obtain ⟨u, e, n, _⟩ := r.there z; rw [q] at e; cases e; exact n _ rfl) q fun _ z => (nomatch z)))
    · exact .inl (.inr ⟨o, keep _ _ (fun z => by obtain ⟨u, e, _, n, _⟩ := r.there z; rw [q] at e; cases e; exact n _ _ rfl) q fun _ z => (nomatch z)⟩)
    · exact .inr q
  rol := fun a xs q => by
    rcases q with ⟨o, q⟩ | q
    · exact .inl ⟨o, keep _ _ (fun z => by obtain ⟨u, e, _, n, _⟩ := r.there z; rw [q] at e; cases e; exact n _ _ rfl) q fun _ z => (nomatch z)⟩
    · exact .inr q
  pl := pl
theorem Rel.stay (r : Rel g H m h) (x : Ext H m H' m') : Stay g.K H m H' m' := r.stayOf x.keep fun _ _ e => x.pl e
theorem SV.stay {K : PySem.W.Frag} {σ : L2.St} {τ : Sd} (s : SV K H m σ τ) (x : Stay K H m H' m') : SV K H' m' σ τ :=
  ⟨s.1, fun i d e => let ⟨v, e1, r⟩ := s.2 i d e; ⟨v, e1, r.stay x⟩⟩
theorem FV.stay {K : PySem.W.Frag} {fs : List (Str × V)} {gs : List (Str × D)} (s : FV K H m fs gs) (x : Stay K H m H' m') : FV K H' m' fs gs := ⟨s.1, s.2.stay x⟩
theorem OV.stay (s : OV g H m a o) (x : Stay g.K H m H' m') (e : H' a = H a) : OV g H' m' a o := by
  cases o with
  | lst ds => obtain ⟨xs, q, r⟩ := s; exact ⟨xs, e.trans q, r.stay x⟩
  | dct kvs => obtain ⟨ks, q1, q, r⟩ := s; exact ⟨ks, e.trans q1, q, r.stay x⟩
  | ins c fs => obtain ⟨C, dx, gs, q1, q, r⟩ := s; exact ⟨C, dx, gs, q1, e.trans q, r.stay x⟩
/-- tables stay where an object is written that is no table and no code object -/
theorem tabs_upd {T : List (Addr × Str)} {p : Addr} {u : HO} (t : LamX.Tabs T H) (h1 : ∀ ps, H p ≠ some (.tbl ps)) (h2 : ∀ q, H p ≠ some (.ext q)) : LamX.Tabs T (upd H p u) := fun x hx => by
  obtain ⟨ps, e1, e2, e3⟩ := t x hx
  refine ⟨ps, by rw [upd_ne (fun z : x.1 = p => h1 ps (by rw [← z]; exact e1))]; exact e1, e2, fun pos cv hc => ?_⟩
  obtain ⟨c, q1, q2⟩ := e3 pos cv hc
  exact ⟨c, q1, by rw [upd_ne (fun z : c = p => h2 _ (by rw [← z]; exact q2))]; exact q2⟩
theorem tabs_new {T : List (Addr × Str)} {p : Addr} {u : HO} (t : LamX.Tabs T H) (hp : H p = none) : LamX.Tabs T (upd H p u) := tabs_upd t (fun _ z => by rw [hp] at z; cases z) fun _ z => by rw [hp] at z; cases z
/-- a new object at p -/
theorem Ext.new {p : Addr} {u : HO} (hp : H p = none) (hm : p ∉ m) : Ext H m (upd H p u) (m ++ [p]) :=
  ⟨⟨[p], rfl, fun a ha => by rw [List.mem_singleton.mp ha]; exact ⟨fun o e => by (rw [hp] at e; cases e), hm⟩⟩, fun a o _ e _ => by rw [upd_ne (ne_of_none e hp)]; exact e⟩
theorem Ext.tupNew {p : Addr} {u : HO} (hp : H p = none) : Ext H m (upd H p u) m :=
  ⟨⟨[], by simp, fun _ z => nomatch z⟩, fun a o _ e _ => by rw [upd_ne (ne_of_none e hp)]; exact e⟩
theorem Rel.new {p : Addr} {u : HO} (r : Rel g H m h) (hp : H p = none) (hu : OV g (upd H p u) (m ++ [p]) p o) : Rel g (upd H p u) (m ++ [p]) (h ++ [o]) where
  len := by simp [r.len]
  nd := List.nodup_append.mpr ⟨r.nd, by simp, fun a ha b hb => by rw [List.mem_singleton.mp hb]; intro e; subst e; exact r.notin hp ha⟩
  obj := fun n a o' e1 e2 => by
    have st := r.stay (Ext.new (u := u) hp (r.notin hp))
    by_cases hn : n < m.length
    · rw [List.getElem?_append_left hn] at e1
      rw [List.getElem?_append_left (r.len ▸ hn)] at e2
      have x := r.obj n a o' e1 e2
      obtain ⟨w, ew, _⟩ := x.some
      exact x.stay st (upd_ne (ne_of_none ew hp))
    · have hl : n = m.length := by
        obtain ⟨q, _⟩ := List.getElem?_eq_some_iff.mp e1
        simp at q; omega
      subst hl
      simp at e1
      rw [r.len] at e2
      simp at e2
      subst e1 e2
      exact hu
  tabs := tabs_new r.tabs hp
theorem Rel.tupNew {p : Addr} {u : HO} (r : Rel g H m h) (hp : H p = none) : Rel g (upd H p u) m h where
  len := r.len
  nd := r.nd
  obj := fun n a o' e1 e2 => by
    have x := r.obj n a o' e1 e2
    obtain ⟨w, ew, _⟩ := x.some
    exact x.stay (r.stay (Ext.tupNew hp)) (upd_ne (ne_of_none ew hp))
  tabs := tabs_new r.tabs hp
/-- the object at place n is changed -/
theorem Ext.write {p : Addr} {u : HO} (hm : p ∈ m) : Ext H m (upd H p u) m :=
  ⟨⟨[], by simp, fun _ z => nomatch z⟩, fun a o n e _ => by rw [upd_ne (fun z => n (by rw [z]; exact hm))]; exact e⟩
theorem Rel.write {p : Addr} {u : HO} {n : Nat} (r : Rel g H m h) (hn : m[n]? = some p) (hu : OV g (upd H p u) m p o) : Rel g (upd H p u) m (h.set n o) where
  len := by simp [r.len]
  nd := r.nd
  obj := fun i a o' e1 e2 => by
    have hm : p ∈ m := List.mem_of_getElem? hn
    by_cases hi : i = n
    · subst hi
      rw [e1] at hn; cases hn
      have hl : i < h.length := by
        obtain ⟨q, _⟩ := List.getElem?_eq_some_iff.mp e1
        rw [← r.len]; exact q
      rw [List.getElem?_set_self hl] at e2
      cases e2
      exact hu
    · rw [List.getElem?_set_ne (Ne.symm hi)] at e2
      have x := r.obj i a o' e1 e2
      refine x.stay (r.stay (Ext.write hm)) (upd_ne fun z => hi ?_)
      subst z
      exact r.inj e1 hn
  tabs := by
    obtain ⟨u, e, _, _, n1, n2⟩ := r.there (List.mem_of_getElem? hn)
    exact tabs_upd r.tabs (fun ps z => by rw [e] at z; cases z; exact n1 _ rfl) fun q z => by rw [e] at z; cases z; exact n2 _ rfl
end

/-- an exception's value, by its class and its own dict -/
def EV (g : Gd) (H : Hp) (m : List Addr) (x : Exn) (c : Value) (d : Option Addr) : Prop :=
  ∃ C, g.cl x.cls = some C ∧ c = .ref C ∧ match d with
    | none => x.fs = []
    | some a => ∃ fs, H a = some (.xd fs) ∧ FV g.K H m fs x.fs

def Post (g : Gd) (W : WX) (σ : L2.St) (H : Hp) (m : List Addr) {α β : Type} (rel : Hp → List Addr → β → α → Prop) (Q : β → Hp → Prop) : Res α → Prop
  | .ok d h' => ∀ v H' m', Ext H m H' m' → Rel g H' m' h' → rel H' m' v d → Q v H'
  | .ex x h' => ∀ c d H' m', Ext H m H' m' → Rel g H' m' h' → EV g H' m' x c d → W c d σ H'
  | .bad => False
/-- the state: abstract heap, places, slots -/
structure At (g : Gd) (σ : L2.St) (H : Hp) (m : List Addr) (τ : Sd) (h : Hd) : Prop where
  rel : Rel g H m h
  sv : SV g.K H m σ τ
def relB (_ : Hp) (_ : List Addr) (v : Bool) (d : Bool) : Prop := v = d
abbrev Fe := Sd → Hd → Res D
abbrev Fes := Sd → Hd → Res (List D)
abbrev Ft := Sd → Hd → Res Bool
def LE (g : Gd) (W : WX) (f : Fe) : TE := fun σ H Q => ∃ m τ h, At g σ H m τ h ∧ Post g W σ H m (DV g.K) Q (f τ h)
def LA (g : Gd) (W : WX) (f : Fes) : TA := fun σ H Q => ∃ m τ h, At g σ H m τ h ∧ Post g W σ H m (DVs g.K) Q (f τ h)
def LT (g : Gd) (W : WX) (f : Ft) : TT := fun σ H Q => ∃ m τ h, At g σ H m τ h ∧ Post g W σ H m relB Q (f τ h)

section
variable {g : Gd} {W : WX} {σ : L2.St} {H H1 : Hp} {m m1 : List Addr} {τ : Sd} {h : Hd} {α α' β β' : Type}
theorem At.ext (a : At g σ H m τ h) {h1 : Hd} (x : Ext H m H1 m1) (r : Rel g H1 m1 h1) : At g σ H1 m1 τ h1 := ⟨r, a.sv.stay (a.rel.stay x)⟩
theorem Post.ext {rel : Hp → List Addr → β → α → Prop} {Q : β → Hp → Prop} {r : Res α} (p : Post g W σ H m rel Q r) (x : Ext H m H1 m1) : Post g W σ H1 m1 rel Q r := by
  cases r with
  | ok d h' => exact fun v H' m' x' => p v H' m' (x.trans x')
  | ex e h' => exact fun c d H' m' x' => p c d H' m' (x.trans x')
  | bad => exact p
theorem Post.mono {rel : Hp → List Addr → β → α → Prop} {Q Q' : β → Hp → Prop} {r : Res α} (p : Post g W σ H m rel Q r) (hq : ∀ v H', Q v H' → Q' v H') : Post g W σ H m rel Q' r := by
  cases r with
  | ok d h' => exact fun v H' m' x' r d => hq _ _ (p v H' m' x' r d)
  | ex e h' => exact p
  | bad => exact p
/-- one step, then the rest -/
theorem Post.bind {rel : Hp → List Addr → β → α → Prop} {rel' : Hp → List Addr → β' → α' → Prop} {Q : β' → Hp → Prop} {r : Res α} {f : α → Hd → Res α'} (a : At g σ H m τ h) (p : Post g W σ H m rel' Q (r.bind f)) :
    Post g W σ H m rel (fun v H1 => ∃ m1 h1 d, At g σ H1 m1 τ h1 ∧ Stay g.K H m H1 m1 ∧ rel H1 m1 v d ∧ Post g W σ H1 m1 rel' Q (f d h1)) r := by
  cases r with
  | ok d h' => exact fun v H' m' x r' q => ⟨m', h', d, a.ext x r', a.rel.stay x, q, p.ext x⟩
  | ex e h' => exact p
  | bad => exact p
theorem Post.ok {rel : Hp → List Addr → β → α → Prop} {Q : β → Hp → Prop} {d : α} {v : β} (p : Post g W σ H m rel Q (.ok d h)) (a : At g σ H m τ h) (r : rel H m v d) : Q v H := p v H m .refl a.rel r
theorem PE.weak {X : Cx} {e : Expr} {t t' : TE} (p : PE X e t) (w : ∀ σ H Q, t' σ H Q → t σ H Q) : PE X e t' := ⟨fun pins s σ H Q I h => p.run pins s σ H Q I (w _ _ _ h)⟩
theorem PT.weak {X : Cx} {e : Expr} {t t' : TT} (p : PT X e t) (w : ∀ σ H Q, t' σ H Q → t σ H Q) : PT X e t' := ⟨fun pins s σ H Q I h => p.run pins s σ H Q I (w _ _ _ h)⟩
theorem PW.weak {X : Cx} {e : Expr} {t t' : TT} (p : PW X e t) (w : ∀ σ H Q, t' σ H Q → t σ H Q) : PW X e t' := ⟨fun wh pins s σ H Q I h => p.run wh pins s σ H Q I (w _ _ _ h)⟩
theorem PA.weak {X : Cx} {es : List Expr} {t t' : TA} (p : PA X es t) (w : ∀ σ H Q, t' σ H Q → t σ H Q) : PA X es t' := ⟨fun ps pins s σ H Q I h => p.run ps pins s σ H Q I (w _ _ _ h)⟩
theorem PS.weak {X : Cx} {st : Stmt} {t t' : TS} (p : PS X st t) (w : ∀ D σ H, t' D σ H → t D σ H) : PS X st t' := ⟨fun pins s σ H D I h => p.run pins s σ H D I (w _ _ _ h)⟩
theorem PSs.weak {X : Cx} {st : List Stmt} {t t' : TS} (p : PSs X st t) (w : ∀ D σ H, t' D σ H → t D σ H) : PSs X st t' := ⟨fun pins s σ H D I h => p.run pins s σ H D I (w _ _ _ h)⟩
/-- LE of a bind -/
theorem LE.bind {f : Fe} {k : D → Fe} {Q : VK} (p : LE g W (fun τ h => (f τ h).bind fun d h1 => k d τ h1) σ H Q) :
    LE g W f σ H (fun v H1 => ∃ m1 τ h1 d, At g σ H1 m1 τ h1 ∧ DV g.K H1 m1 v d ∧ Post g W σ H1 m1 (DV g.K) Q (k d τ h1)) := by
  obtain ⟨m, τ, h, a, p⟩ := p
  exact ⟨m, τ, h, a, (Post.bind a p).mono fun v H' ⟨m1, h1, d, a1, _, r, p1⟩ => ⟨m1, τ, h1, d, a1, r, p1⟩⟩
end
end DL

set_option Elab.async false
set_option linter.all false
set_option maxRecDepth 100000
namespace DL
open PySem PySem.Spec PyProof.Rows L2

mutual
def D.py : D → PyData
  | .non => .none | .bl b => .bool b | .int i => .int i | .str x => .str x | .tup ds => .tuple (D.pys ds) | .rol ds => .list (D.pys ds) | .ref _ => .none | .glo _ => .none
def D.pys : List D → List PyData
  | [] => [] | d :: ds => D.py d :: D.pys ds
end
mutual
def D.pure : D → Bool
  | .tup ds => D.pures ds | .rol ds => D.pures ds | .ref _ => false | .glo _ => false | _ => true
def D.pures : List D → Bool
  | [] => true | d :: ds => D.pure d && D.pures ds
end
mutual
theorem D.py_plain : ∀ d : D, d.py.plain = true
  | .non => rfl | .bl _ => rfl | .int _ => rfl | .str _ => rfl | .ref _ => rfl | .glo _ => rfl
  | .tup ds => by show PyData.plainAll (D.pys ds) = true; exact D.pys_plain ds
  | .rol ds => by show PyData.plainAll (D.pys ds) = true; exact D.pys_plain ds
theorem D.pys_plain : ∀ ds : List D, PyData.plainAll (D.pys ds) = true
  | [] => rfl
  | d :: ds => by show (PyData.plain d.py && PyData.plainAll (D.pys ds)) = true; rw [D.py_plain d, D.pys_plain ds]; rfl
end
theorem any_pys (f : PyData → Bool) : ∀ bs : List D, (D.pys bs).any f = bs.any fun y => f y.py
  | [] => rfl
  | b :: bs => by show (f b.py || (D.pys bs).any f) = _; rw [any_pys f bs]; rfl
def D.depth (d : D) : Nat := d.py.depth

section
variable {X : Cx} {pins : List (Addr × Obj)} {σ : L2.St} {H : Hp} {s : Shared} {m : List Addr}
mutual
theorem DV.reads (I : Inv X pins σ H s) : ∀ {v : V} {d : D} {u : Value}, DV X.K H m v d → d.pure = true → RelV v u → ∃ as, Reads s.heap u d.py as
  | _, _, _, .non, _, r => by cases r; exact ⟨_, Reads.none⟩
  | _, _, _, .bl b, _, r => by cases r; exact ⟨_, Reads.bool b⟩
  | _, _, _, .int i, _, r => by obtain ⟨t, rfl⟩ := r; exact ⟨_, Reads.int i t⟩
  | _, _, _, .str x, _, r => by obtain ⟨t, rfl⟩ := r; exact ⟨_, Reads.str x t⟩
  | _, _, _, .tup hs ha, p, r => by
    cases r
    obtain ⟨its, rv, ⟨o, ho, hc, n, hd⟩, _⟩ := I.tuple hs
    obtain ⟨as, hr⟩ := DVs.reads I ha p rv
    exact ⟨_, Reads.tuple ho hc hd hr⟩
  | _, _, _, .rol hs ha, p, r => by
    cases r
    obtain ⟨its, rv, ⟨o, n, ho, hc, _, hd⟩, _⟩ := I.list hs.sq
    obtain ⟨as, hr⟩ := DVs.reads I ha p rv
    exact ⟨_, Reads.list ho hc hd hr⟩
  | _, _, _, .ref _, p, _ => by cases p
  | _, _, _, .glo _, p, _ => by cases p
theorem DVs.reads (I : Inv X pins σ H s) : ∀ {vs : List V} {ds : List D} {us : List Value}, DVs X.K H m vs ds → D.pures ds = true → Vals vs us → ∃ as, ReadsAll s.heap us (D.pys ds) as
  | _, _, _, .nil, _, r => by cases r; exact ⟨_, ReadsAll.nil⟩
  | _, _, _, .cons h1 h2, p, r => by
    cases r with
    | cons r1 r2 =>
      have p' := (Bool.and_eq_true_iff.mp p)
      obtain ⟨as, q1⟩ := DV.reads I h1 p'.1 r1
      obtain ⟨bs, q2⟩ := DVs.reads I h2 p'.2 r2
      exact ⟨_, ReadsAll.cons q1 q2⟩
end
end

abbrev So := Option (D × Hd)
def ofO : So → Res D
  | some (d, h) => .ok d h
  | none => .bad
@[simp] theorem ofO_some (d : D) (h : Hd) : ofO (some (d, h)) = .ok d h := rfl
@[simp] theorem ofO_none : ofO none = .bad := rfl
def PO (g : Gd) (H : Hp) (m : List Addr) (Q : VK) : So → Prop
  | some (d, h') => ∀ v H' m', Ext H m H' m' → Rel g H' m' h' → DV g.K H' m' v d → Q v H'
  | none => False
theorem Post.po {g : Gd} {W : WX} {σ : L2.St} {H : Hp} {m : List Addr} {Q : VK} {r : So} (p : Post g W σ H m (DV g.K) Q (ofO r)) : PO g H m Q r := by
  cases r with
  | none => exact p
  | some x => exact p
def rD (g : Gd) (sem : D → D → Hd → So) : R2 := fun x y H Q => ∃ m h dx dy, Rel g H m h ∧ DV g.K H m x dx ∧ DV g.K H m y dy ∧ PO g H m Q (sem dx dy h)
def rU (g : Gd) (sem : D → Hd → So) : V → Hp → VK → Prop := fun x H Q => ∃ m h dx, Rel g H m h ∧ DV g.K H m x dx ∧ PO g H m Q (sem dx h)
def rC (g : Gd) (sem : List D → Hd → So) : List V → Hp → VK → Prop := fun xs H Q => ∃ m h ds, Rel g H m h ∧ DVs g.K H m xs ds ∧ PO g H m Q (sem ds h)
def rM (g : Gd) (sem : D → List D → Hd → So) : V → List V → Hp → VK → Prop := fun x xs H Q => ∃ m h dx ds, Rel g H m h ∧ DV g.K H m x dx ∧ DVs g.K H m xs ds ∧ PO g H m Q (sem dx ds h)
def rS (g : Gd) (sem : D → Option Int → Option Int → Hd → So) : V → Option Int → Option Int → Hp → VK → Prop := fun x lo hi H Q => ∃ m h dx, Rel g H m h ∧ DV g.K H m x dx ∧ PO g H m Q (sem dx lo hi h)

section
variable {g : Gd} {H : Hp} {m : List Addr} {Q : VK} {h : Hd} {v : V} {d : D}
theorem PO.here (p : PO g H m Q (some (d, h))) (r : Rel g H m h) (q : DV g.K H m v d) : Q v H := p v H m .refl r q
theorem PO.new {p : Addr} {u : HO} {o : OD} (q : PO g H m Q (some (.ref h.length, h ++ [o]))) (r : Rel g H m h) (hp : H p = none) (hu : OV g (upd H p u) (m ++ [p]) p o) : Q (.ref p) (upd H p u) :=
  q _ _ _ (.new hp (r.notin hp)) (r.new hp hu) (.ref (by rw [← r.len]; simp))
theorem PO.newTup {p : Addr} {xs : List V} {ds : List D} (q : PO g H m Q (some (.tup ds, h))) (r : Rel g H m h) (hp : H p = none) (hu : DVs g.K H m xs ds) : Q (.ref p) (upd H p (.tup xs)) :=
  q _ _ _ (.tupNew hp) (r.tupNew hp) (.tup (.inl (.inl upd_same)) (hu.stay (r.stay (.tupNew hp))))
theorem newLst {p : Addr} {xs : List V} {ds : List D} (r : Rel g H m h) (hp : H p = none) (hu : DVs g.K H m xs ds) : OV g (upd H p (.lst xs)) (m ++ [p]) p (.lst ds) := ⟨xs, upd_same, hu.stay (r.stay (.new hp (r.notin hp)))⟩
theorem PO.newLst {p : Addr} {xs : List V} {ds : List D} (q : PO g H m Q (some (.ref h.length, h ++ [.lst ds]))) (r : Rel g H m h) (hp : H p = none) (hu : DVs g.K H m xs ds) : Q (.ref p) (upd H p (.lst xs)) := q.new r hp (DL.newLst r hp hu)
/-- a tracked list read -/
theorem Rel.lst {n : Nat} {a : Addr} {ds : List D} (r : Rel g H m h) (e : m[n]? = some a) (e2 : h[n]? = some (.lst ds)) : ∃ xs, H a = some (.lst xs) ∧ DVs g.K H m xs ds := r.obj n a _ e e2
end

/-- a sequence by data: what it holds; true: a tuple -/
def seqOf (h : Hd) : D → Option (List D)
  | .tup ds => some ds
  | .rol ds => some ds
  | .ref n => match h[n]? with | some (.lst ds) => some ds | _ => none
  | _ => none
theorem seqOf_sq {g : Gd} {H : Hp} {m : List Addr} {h : Hd} {v : V} {d : D} {ds : List D} (r : Rel g H m h) (q : DV g.K H m v d) (e : seqOf h d = some ds) : ∃ a xs, v = .ref a ∧ (SqL g.K H a xs ∨ SqT g.K H a xs) ∧ DVs g.K H m xs ds := by
  cases q with
  | tup a b => cases e; exact ⟨_, _, rfl, .inr a, b⟩
  | rol a b => cases e; exact ⟨_, _, rfl, .inl a.sq, b⟩
  | ref a =>
    simp only [seqOf] at e
    split at e
    · cases e
      obtain ⟨xs, x, y⟩ := r.lst a (by assumption)
      exact ⟨_, _, rfl, .inl (.of x), y⟩
    · cases e
  | _ => cases e

def semAdd : D → D → Hd → So
  | .int i, .int j, h => some (.int (i + j), h)
  | .str a, .str b, h => if a.length + b.length ≤ sizeLine then some (.str (a ++ b), h) else none
  | .tup xs, .tup ys, h => if xs.length + ys.length ≤ sizeLine then some (.tup (xs ++ ys), h) else none
  | .ref a, .ref b, h => match h[a]?, h[b]? with
    | some (.lst xs), some (.lst ys) => if xs.length + ys.length ≤ sizeLine then some (.ref h.length, h ++ [.lst (xs ++ ys)]) else none
    | _, _ => none
  | _, _, _ => none
def semSub : D → D → Hd → So
  | .int i, .int j, h => some (.int (i - j), h)
  | _, _, _ => none
def semMul : D → D → Hd → So
  | .int i, .int j, h => if (-(2 ^ 64) < i ∧ i < 2 ^ 64) ∨ (-(2 ^ 64) < j ∧ j < 2 ^ 64) then some (.int (i * j), h) else none
  | .ref a, .int k, h => match h[a]? with
    | some (.lst xs) => if -(2 ^ 63) ≤ k ∧ k < 2 ^ 63 ∧ xs.length * k.toNat ≤ sizeLine then some (.ref h.length, h ++ [.lst (List.replicate k.toNat xs).flatten]) else none
    | _ => none
  | _, _, _ => none
def semDiv : D → D → Hd → So
  | .int i, .int j, h => if 0 < j ∧ j.natAbs.log2 < 9000 then some (.int (i / j), h) else none
  | _, _, _ => none
def semMod : D → D → Hd → So
  | .int i, .int j, h => if 0 < j then some (.int (i % j), h) else none
  | _, _, _ => none
def semPow : D → D → Hd → So
  | .int i, .int j, h => if 0 ≤ j ∧ j ≤ 1000000 ∧ i.natAbs < 2 ^ 64 then some (.int (i ^ j.toNat), h) else none
  | _, _, _ => none
def semCmpI (f : Int → Int → Bool) : D → D → Hd → So
  | .int i, .int j, h => some (.bl (f i j), h)
  | _, _, _ => none
def eqD (a b : D) : Option Bool := if a.pure = true ∧ b.pure = true ∧ min a.depth b.depth ≤ 40 then some (PyData.eqv a.py b.py) else none
theorem eqD_some {a b : D} {k : Bool} (e : eqD a b = some k) : a.pure = true ∧ b.pure = true ∧ min a.depth b.depth ≤ 40 ∧ k = PyData.eqv a.py b.py := by
  unfold eqD at e
  by_cases c : a.pure = true ∧ b.pure = true ∧ min a.depth b.depth ≤ 40
  · rw [if_pos c] at e; cases e; exact ⟨c.1, c.2.1, c.2.2, rfl⟩
  · rw [if_neg c] at e; cases e
def semEq (neg : Bool) (a b : D) (h : Hd) : So := (eqD a b).map fun k => (.bl (if neg then !k else k), h)
def inD (a : D) (bs : List D) : Option Bool := if a.pure = true ∧ D.pures bs = true ∧ a.depth ≤ 40 then some (bs.any fun y => PyData.eqv y.py a.py) else none
theorem inD_some {a : D} {bs : List D} {k : Bool} (e : inD a bs = some k) : a.pure = true ∧ D.pures bs = true ∧ a.depth ≤ 40 ∧ k = bs.any fun y => PyData.eqv y.py a.py := by
  unfold inD at e
  by_cases c : a.pure = true ∧ D.pures bs = true ∧ a.depth ≤ 40
  · rw [if_pos c] at e; cases e; exact ⟨c.1, c.2.1, c.2.2, rfl⟩
  · rw [if_neg c] at e; cases e
def semIn (neg : Bool) (a b : D) (h : Hd) : So := match b with
  | .tup bs => (inD a bs).map fun k => (.bl (if neg then !k else k), h)
  | .ref n => match h[n]? with
    | some (.lst bs) => (inD a bs).map fun k => (.bl (if neg then !k else k), h)
    | _ => none
  | _ => none
def semIs (neg : Bool) (a b : D) (h : Hd) : So := match b, a with
  | .non, .glo _ => none
  | .non, .non => some (.bl !neg, h)
  | .non, _ => some (.bl neg, h)
  | _, _ => none
def semNeg : D → Hd → So
  | .int i, h => some (.int (-i), h)
  | _, _ => none
def semIx (a i : D) (h : Hd) : So := match a, i with
  | .str z, .int i => if z.length ≤ sizeLine then (atI z.cps.toList i).map fun c => (.str ⟨#[c]⟩, h) else none
  | a, .int i => match seqOf h a with
    | some ds => (atI ds i).map fun d => (d, h)
    | none => none
  | _, _ => none
def cutD (ds : List D) (lo hi : Option Int) : List D := (ds.drop (HT.sIx ds.length 0 lo)).take (HT.sIx ds.length ds.length hi - HT.sIx ds.length 0 lo)
def semSl (a : D) (lo hi : Option Int) (h : Hd) : So := match a with
  | .tup ds => some (.tup (cutD ds lo hi), h)
  | .ref n => match h[n]? with
    | some (.lst ds) => some (.ref h.length, h ++ [.lst (cutD ds lo hi)])
    | _ => none
  | _ => none

section
variable {X : Cx} {g : Gd}
theorem op_or {X : Cx} {f : Value → Value → Sem Value} {r r' : R2} (h : OpR X f r) (w : ∀ x y H Q, r' x y H Q → r x y H Q) : OpR X f r' := fun pins s σ H x y v u Q I rx ry q => h pins s σ H x y v u Q I rx ry (w _ _ _ _ q)
theorem atI_dv {K : PySem.W.Frag} {H : Hp} {m : List Addr} {xs : List V} {ds : List D} {i : Int} {d : D} (r : DVs K H m xs ds) (e : atI ds i = some d) : ∃ v, atI xs i = some v ∧ DV K H m v d := by
  unfold atI at e ⊢
  rw [r.length]
  cases q : ixN ds.length i with
  | none => rw [q] at e; cases e
  | some j =>
    rw [q] at e
    exact r.get (by simpa using e)

theorem o_add (hK : X.K = g.K) : OpR X (binaryOp .Add) (rD g semAdd) := by
  refine op_or ((op_add (X := X)).or (op_add_str.or (op_catA.or op_cat))) fun x y H Q ⟨m, h, dx, dy, r, qx, qy, p⟩ => ?_
  cases qx with
  | int i => cases qy with
    | int j => exact .inl ⟨_, _, rfl, rfl, p.here r (.int _)⟩
    | _ => exact p.elim
  | str a => cases qy with
    | str b =>
      simp only [semAdd] at p
      split at p
      · exact .inr (.inl ⟨_, _, rfl, rfl, by assumption, p.here r (.str _)⟩)
      · exact p.elim
    | _ => exact p.elim
  | tup a b => cases qy with
    | tup a' b' =>
      simp only [semAdd] at p
      split at p
      · rename_i hz
        rw [← b.length, ← b'.length] at hz
        refine .inr (.inr (.inl ⟨_, _, _, _, rfl, rfl, hK ▸ a, hK ▸ a', hz, fun e => ?_, fun _ e => ?_, fun _ _ q hq => p.newTup r hq (b.append b')⟩))
        · subst e; cases b; exact p.here r (.tup a' (by simpa using b'))
        · subst e; cases b'; exact p.here r (.tup a (by simpa using b))
      · exact p.elim
    | _ => exact p.elim
  | ref a => cases qy with
    | ref b =>
      simp only [semAdd] at p
      split at p
      · rename_i e1 e2
        split at p
        · rename_i hz
          obtain ⟨xs, x1, x2⟩ := r.lst a e1
          obtain ⟨ys, y1, y2⟩ := r.lst b e2
          rw [← x2.length, ← y2.length] at hz
          exact .inr (.inr (.inr ⟨_, _, _, _, rfl, rfl, x1, y1, hz, fun q hq => p.newLst r hq (x2.append y2)⟩))
        · exact p.elim
      · exact p.elim
    | _ => exact p.elim
  | _ => exact p.elim
theorem o_int {op : Value → Value → Sem Value} {C : Int → Int → Prop} {f : Int → Int → V} {f' : Int → Int → D} {sem : D → D → Hd → So} (ho : OpR X op (rI C f)) (hf : ∀ i j K H m, DV K H m (f i j) (f' i j))
    (hs : ∀ a b h, sem a b h = none ∨ ∃ i j, a = .int i ∧ b = .int j ∧ C i j ∧ sem a b h = some (f' i j, h)) : OpR X op (rD g sem) := by
  refine op_or ho fun x y H Q ⟨m, h, dx, dy, r, qx, qy, p⟩ => ?_
  rcases hs dx dy h with e | ⟨i, j, rfl, rfl, c, e⟩
  · rw [e] at p; exact p.elim
  · rw [e] at p
    cases qx; cases qy
    exact ⟨_, _, rfl, rfl, c, p.here r (hf _ _ _ _ _)⟩
theorem rI0C {X : Cx} {op : Value → Value → Sem Value} {f : Int → Int → V} (ho : OpR X op (rI0 f)) : OpR X op (rI (fun _ _ => True) f) := op_or ho fun x y H Q ⟨i, j, a, b, _, q⟩ => ⟨i, j, a, b, q⟩
theorem o_sub : OpR X (binaryOp .Sub) (rD g semSub) := o_int (f' := fun i j => .int (i - j)) (rI0C op_sub) (fun _ _ _ _ _ => .int _) fun a b h => by
  unfold semSub; split
  · exact .inr ⟨_, _, rfl, rfl, trivial, rfl⟩
  · exact .inl rfl
theorem o_div : OpR X (binaryOp .FloorDiv) (rD g semDiv) := o_int (f' := fun i j => .int (i / j)) op_fdivW (fun _ _ _ _ _ => .int _) fun a b h => by
  unfold semDiv; split
  · split
    · exact .inr ⟨_, _, rfl, rfl, by assumption, rfl⟩
    · exact .inl rfl
  · exact .inl rfl
theorem o_mod : OpR X (binaryOp .Mod) (rD g semMod) := o_int (f' := fun i j => .int (i % j)) op_mod (fun _ _ _ _ _ => .int _) fun a b h => by
  unfold semMod; split
  · split
    · exact .inr ⟨_, _, rfl, rfl, by assumption, rfl⟩
    · exact .inl rfl
  · exact .inl rfl
theorem o_pow : OpR X (binaryOp .Pow) (rD g semPow) := o_int (f' := fun i j => .int (i ^ j.toNat)) op_pow (fun _ _ _ _ _ => .int _) fun a b h => by
  unfold semPow; split
  · split
    · exact .inr ⟨_, _, rfl, rfl, by assumption, rfl⟩
    · exact .inl rfl
  · exact .inl rfl
theorem o_mul : OpR X (binaryOp .Mult) (rD g semMul) := by
  refine op_or ((op_mul (X := X)).or op_rep) fun x y H Q ⟨m, h, dx, dy, r, qx, qy, p⟩ => ?_
  cases qx with
  | int i => cases qy with
    | int j =>
      simp only [semMul] at p
      split at p
      · exact .inl ⟨_, _, rfl, rfl, by assumption, p.here r (.int _)⟩
      · exact p.elim
    | _ => exact p.elim
  | ref a => cases qy with
    | int k =>
      simp only [semMul] at p
      split at p
      · rename_i e1
        split at p
        · rename_i hz
          obtain ⟨xs, x1, x2⟩ := r.lst a e1
          rw [← x2.length] at hz
          exact .inr ⟨_, _, _, rfl, rfl, x1, hz.1, hz.2.1, hz.2.2, fun q hq => p.newLst r hq (x2.rep _)⟩
        · exact p.elim
      · exact p.elim
    | _ => exact p.elim
  | _ => exact p.elim
theorem o_cmp {op : Value → Value → Sem Value} {f : Int → Int → Bool} (ho : OpR X op (rI0 fun i j => .bl (f i j))) : OpR X op (rD g (semCmpI f)) := o_int (f' := fun i j => .bl (f i j)) (rI0C ho) (fun _ _ _ _ _ => .bl _) fun a b h => by
  unfold semCmpI; split
  · exact .inr ⟨_, _, rfl, rfl, trivial, rfl⟩
  · exact .inl rfl
theorem o_lt : OpR X (compareOp .Lt) (rD g (semCmpI fun i j => decide (i < j))) := o_cmp op_lt
theorem o_le : OpR X (compareOp .LtE) (rD g (semCmpI fun i j => decide (i ≤ j))) := o_cmp op_le
theorem o_gt : OpR X (compareOp .Gt) (rD g (semCmpI fun i j => decide (j < i))) := o_cmp op_gt
theorem o_ge : OpR X (compareOp .GtE) (rD g (semCmpI fun i j => decide (j ≤ i))) := o_cmp op_ge
theorem o_eq (hK : X.K = g.K) (hu : X.A.units + 64 < cLine) : OpR X (compareOp .Eq) (rD g (semEq false)) := by
  intro pins s σ H x y v u Q I rx ry ⟨m, h, dx, dy, r, qx, qy, p⟩
  unfold semEq at p
  cases e : eqD dx dy with
  | none => rw [e] at p; exact p.elim
  | some k =>
    rw [e] at p
    obtain ⟨c1, c2, c3, rfl⟩ := eqD_some e
    obtain ⟨as, r1⟩ := DV.reads I (hK ▸ qx) c1 rx
    obtain ⟨bs, r2⟩ := DV.reads I (hK ▸ qy) c2 ry
    exact SeqAt.eq_plain r1 r2 dx.py_plain dy.py_plain (by unfold D.depth at c3; omega) ⟨.bl _, H, I, rfl, p.here r (.bl _)⟩
theorem o_ne (hK : X.K = g.K) (hu : X.A.units + 64 < cLine) : OpR X (compareOp .NotEq) (rD g (semEq true)) := by
  intro pins s σ H x y v u Q I rx ry ⟨m, h, dx, dy, r, qx, qy, p⟩
  unfold semEq at p
  cases e : eqD dx dy with
  | none => rw [e] at p; exact p.elim
  | some k =>
    rw [e] at p
    obtain ⟨c1, c2, c3, rfl⟩ := eqD_some e
    obtain ⟨as, r1⟩ := DV.reads I (hK ▸ qx) c1 rx
    obtain ⟨bs, r2⟩ := DV.reads I (hK ▸ qy) c2 ry
    exact SeqAt.ne_plain r1 r2 dx.py_plain dy.py_plain (by unfold D.depth at c3; omega) ⟨.bl _, H, I, rfl, p.here r (.bl _)⟩
theorem o_in (hK : X.K = g.K) (hu : X.A.units + 64 < cLine) : OpR X (compareOp .In) (rD g (semIn false)) := by
  intro pins s σ H x y v u Q I rx ry ⟨m, h, dx, dy, r, qx, qy, p⟩
  have one : ∀ {bs : List D} {k : Bool}, inD dx bs = some k → dx.pure = true ∧ D.pures bs = true ∧ dx.depth ≤ 40 ∧ k = bs.any fun y => PyData.eqv y.py dx.py := inD_some
  cases qy with
  | tup a b =>
    rename_i bs
    have p' : PO g H m Q ((inD dx bs).map fun k => (.bl (if false = true then !k else k), h)) := p
    cases e : inD dx bs with
    | none => rw [e] at p'; exact p'.elim
    | some k =>
      rw [e] at p'
      obtain ⟨c1, c2, c3, rfl⟩ := one e
      obtain ⟨as, r1⟩ := DV.reads I (hK ▸ qx) c1 rx
      obtain ⟨bs', r2⟩ := DV.reads I (m := m) (hK ▸ DV.tup a b) (show (D.tup _).pure = true from c2) ry
      refine SeqAt.in_tuple_data r2 r1 (D.pys_plain _) dx.py_plain (by unfold D.depth at c3; omega) ⟨.bl _, H, I, rfl, ?_⟩
      rw [any_pys]
      exact p'.here r (.bl _)
  | ref a =>
    rename_i n
    cases eh : h[n]? with
    | none => simp only [semIn, eh] at p; exact p.elim
    | some o =>
      cases o with
      | lst bs =>
        have p' : PO g H m Q ((inD dx bs).map fun k => (.bl (if false = true then !k else k), h)) := by simpa only [semIn, eh] using p
        cases e : inD dx bs with
        | none => rw [e] at p'; exact p'.elim
        | some k =>
          rw [e] at p'
          obtain ⟨c1, c2, c3, rfl⟩ := one e
          obtain ⟨xs, x1, x2⟩ := r.lst a eh
          obtain ⟨as, r1⟩ := DV.reads I (hK ▸ qx) c1 rx
          cases ry
          obtain ⟨its, rv, ⟨o, n, ho, hc, _, hd⟩, _⟩ := I.list (.of x1)
          obtain ⟨bs', hr⟩ := DVs.reads I (hK ▸ x2) c2 rv
          refine SeqAt.in_list_data (Reads.list ho hc hd hr) r1 (D.pys_plain _) dx.py_plain (by unfold D.depth at c3; omega) ⟨.bl _, H, I, rfl, ?_⟩
          rw [any_pys]
          exact p'.here r (.bl _)
      | dct => simp only [semIn, eh] at p; exact p.elim
      | ins => simp only [semIn, eh] at p; exact p.elim
  | _ => exact p.elim
theorem o_notin (hK : X.K = g.K) (hu : X.A.units + 64 < cLine) : OpR X (compareOp .NotIn) (rD g (semIn true)) := by
  intro pins s σ H x y v u Q I rx ry ⟨m, h, dx, dy, r, qx, qy, p⟩
  have one : ∀ {bs : List D} {k : Bool}, inD dx bs = some k → dx.pure = true ∧ D.pures bs = true ∧ dx.depth ≤ 40 ∧ k = bs.any fun y => PyData.eqv y.py dx.py := inD_some
  cases qy with
  | tup a b =>
    rename_i bs
    have p' : PO g H m Q ((inD dx bs).map fun k => (.bl (if true = true then !k else k), h)) := p
    cases e : inD dx bs with
    | none => rw [e] at p'; exact p'.elim
    | some k =>
      rw [e] at p'
      obtain ⟨c1, c2, c3, rfl⟩ := one e
      obtain ⟨as, r1⟩ := DV.reads I (hK ▸ qx) c1 rx
      obtain ⟨bs', r2⟩ := DV.reads I (m := m) (hK ▸ DV.tup a b) (show (D.tup _).pure = true from c2) ry
      refine SeqAt.notIn_tuple_data r2 r1 (D.pys_plain _) dx.py_plain (by unfold D.depth at c3; omega) ⟨.bl _, H, I, rfl, ?_⟩
      rw [any_pys]
      exact p'.here r (.bl _)
  | ref a =>
    rename_i n
    cases eh : h[n]? with
    | none => simp only [semIn, eh] at p; exact p.elim
    | some o =>
      cases o with
      | lst bs =>
        have p' : PO g H m Q ((inD dx bs).map fun k => (.bl (if true = true then !k else k), h)) := by simpa only [semIn, eh] using p
        cases e : inD dx bs with
        | none => rw [e] at p'; exact p'.elim
        | some k =>
          rw [e] at p'
          obtain ⟨c1, c2, c3, rfl⟩ := one e
          obtain ⟨xs, x1, x2⟩ := r.lst a eh
          obtain ⟨as, r1⟩ := DV.reads I (hK ▸ qx) c1 rx
          cases ry
          obtain ⟨its, rv, ⟨o, n, ho, hc, _, hd⟩, _⟩ := I.list (.of x1)
          obtain ⟨bs', hr⟩ := DVs.reads I (hK ▸ x2) c2 rv
          refine SeqAt.notIn_list_data (Reads.list ho hc hd hr) r1 (D.pys_plain _) dx.py_plain (by unfold D.depth at c3; omega) ⟨.bl _, H, I, rfl, ?_⟩
          rw [any_pys]
          exact p'.here r (.bl _)
      | dct => simp only [semIn, eh] at p; exact p.elim
      | ins => simp only [semIn, eh] at p; exact p.elim
  | _ => exact p.elim
theorem o_is : OpR X (compareOp .Is) (rD g (semIs false)) := by
  refine op_or op_isN fun x y H Q ⟨m, h, dx, dy, r, qx, qy, p⟩ => ?_
  cases qy with
  | non =>
    refine ⟨rfl, ?_⟩
    cases qx with
    | non => exact p.here r (.bl _)
    | glo => exact p.elim
    | _ => exact p.here r (.bl _)
  | _ => exact p.elim
theorem o_isnot : OpR X (compareOp .IsNot) (rD g (semIs true)) := by
  refine op_or op_notN fun x y H Q ⟨m, h, dx, dy, r, qx, qy, p⟩ => ?_
  cases qy with
  | non =>
    refine ⟨rfl, ?_⟩
    cases qx with
    | non => exact p.here r (.bl _)
    | glo => exact p.elim
    | _ => exact p.here r (.bl _)
  | _ => exact p.elim
theorem u_neg : UnR X (unaryOp .USub) (rU g semNeg) := by
  intro pins s σ H x v Q I rx ⟨m, h, dx, r, qx, p⟩
  cases qx with
  | int i => exact un_neg pins s σ H _ v Q I rx ⟨_, rfl, p.here r (.int _)⟩
  | _ => exact p.elim
theorem ix_or {X : Cx} {r r' : R2} (h : IxR X r) (w : ∀ x y H Q, r' x y H Q → r x y H Q) : IxR X r' := fun va sl pins s σ H x y v u Q I rx ry q => h va sl pins s σ H x y v u Q I rx ry (w _ _ _ _ q)
theorem i_ix (hK : X.K = g.K) : IxR X (rD g semIx) := by
  refine ix_or ix_seq fun x y H Q ⟨m, h, dx, dy, r, qx, qy, p⟩ => ?_
  have hh : ∀ {d : D} {i : Int} {ds : List D} {v : V}, DV g.K H m v d → seqOf h d = some ds → PO g H m Q ((atI ds i).map fun d => (d, h)) → rIx X.K v (.int i) H Q := fun {d i ds v} q e p => by
    obtain ⟨a, xs, rfl, hs, hd⟩ := seqOf_sq r q e
    cases ea : atI ds i with
    | none => rw [ea] at p; exact p.elim
    | some z =>
      rw [ea] at p
      obtain ⟨w, e1, q1⟩ := atI_dv hd ea
      rcases hs with hs | hs
      · exact .inl ⟨_, _, _, _, rfl, rfl, hK ▸ hs, e1, p.here r q1⟩
      · exact .inr (.inl ⟨_, _, _, _, rfl, rfl, hK ▸ hs, e1, p.here r q1⟩)
  cases qy with
  | int i =>
    cases qx with
    | str z =>
      simp only [semIx] at p
      split at p
      · cases ea : atI z.cps.toList i with
        | none => rw [ea] at p; exact p.elim
        | some c =>
          rw [ea] at p
          exact .inr (.inr ⟨_, _, _, rfl, rfl, by assumption, ea, p.here r (.str _)⟩)
      · exact p.elim
    | tup a b => exact hh (.tup a b) rfl p
    | rol a b => exact hh (.rol a b) rfl p
    | ref a =>
      have p' : PO g H m Q (match seqOf h (.ref _) with | some ds => (atI ds i).map fun d => (d, h) | none => none) := p
      split at p'
      · exact hh (.ref a) (by assumption) p'
      · exact p'.elim
    | _ => exact p.elim
  | _ => cases qx <;> exact p.elim
theorem cutD_dv {K : PySem.W.Frag} {H : Hp} {m : List Addr} {xs : List V} {ds : List D} (r : DVs K H m xs ds) (lo hi : Option Int) : DVs K H m (cutV xs lo hi) (cutD ds lo hi) := by
  unfold cutV cutD
  rw [r.length]
  exact (r.drop _).take _
theorem s_sl (hK : X.K = g.K) : SlR X (rS g semSl) := by
  intro pins s σ H x v vl vu lo hi sl Q I rx hs pl pu ⟨m, h, dx, r, qx, p⟩
  refine (sl_tupA.or sl_list) pins s σ H x v vl vu lo hi sl Q I rx hs pl pu ?_
  cases qx with
  | tup a b =>
    refine .inl ⟨_, _, rfl, hK ▸ a, fun e => ?_, fun _ q hq => p.newTup r hq (cutD_dv b lo hi)⟩
    rw [b.length] at e
    refine p.here r (.tup a ?_)
    unfold cutD
    rw [e.1, e.2]
    simpa using b
  | ref a =>
    simp only [semSl] at p
    split at p
    · rename_i e1
      obtain ⟨xs, x1, x2⟩ := r.lst a e1
      exact .inr ⟨_, _, rfl, .of x1, fun q hq => p.newLst r hq (cutD_dv x2 lo hi)⟩
    · exact p.elim
  | _ => exact p.elim

def truD (d : D) (h : Hd) : Option Bool := match d with
  | .non => some false
  | .bl b => some b
  | .int i => some (i != 0)
  | .str y => if y.length ≤ sizeLine then some ((y.length : Int) != 0) else none
  | .glo _ => none
  | d => (seqOf h d).map fun ds => !ds.isEmpty
theorem isE {K : PySem.W.Frag} {H : Hp} {m : List Addr} {xs : List V} {ds : List D} (r : DVs K H m xs ds) : (!ds.isEmpty) = !xs.isEmpty := by cases r <;> rfl
theorem truD_ok (hK : X.K = g.K) {H : Hp} {m : List Addr} {h : Hd} {v : V} {d : D} {k : Bool} (r : Rel g H m h) (q : DV g.K H m v d) (e : truD d h = some k) : TruV X.K v H k := by
  have hh : ∀ {d : D} {v : V}, DV g.K H m v d → (seqOf h d).map (fun ds => !ds.isEmpty) = some k → TruV X.K v H k := fun {d v} q e => by
    cases e1 : seqOf h d with
    | none => rw [e1] at e; cases e
    | some ds =>
      rw [e1] at e
      cases e
      obtain ⟨a, xs, rfl, hs, hd⟩ := seqOf_sq r q e1
      rcases hs with hs | hs
      · exact .inl ⟨_, hK ▸ hs, isE hd⟩
      · exact .inr (.inl ⟨_, hK ▸ hs, isE hd⟩)
  cases q with
  | non => cases e; rfl
  | bl b => cases e; rfl
  | int i => cases e; rfl
  | str x =>
    simp only [truD] at e
    split at e
    · cases e; exact ⟨by assumption, rfl⟩
    · cases e
  | tup a b => exact hh (.tup a b) e
  | rol a b => exact hh (.rol a b) e
  | ref a => exact hh (.ref a) e
  | glo => cases e
end
end DL

set_option Elab.async false
set_option linter.all false
set_option maxRecDepth 100000
namespace PySem.SeqAt
open PySem.W PyProof.Rows

/-- the first place that differs is the only one that is compared -/
theorem dl_tuple_lt (l b : Addr) (items items2 : Array Value) (n n2 : Nat) (dd dd2 : Option Addr) (sl sl2 : Array (Option Value)) (e r : Nat → Bool) :
    Meets (Builtin.«tuple.__lt__» ⟨[.ref l, .ref b], []⟩)
      (fun A R s => s.heap.get? l = some { cls := .type "tuple", dict := dd, data := .seq items n, slots := sl } ∧ s.heap.get? b = some { cls := .type "tuple", dict := dd2, data := .seq items2 n2, slots := sl2 } ∧
        (∀ j (h1 : j < items.size) (h2 : j < items2.size), EqAt A.in1 s items[j] items2[j] (e j)) ∧ (∀ j (h1 : j < items.size) (h2 : j < items2.size), (∀ k, k < j → e k = true) → e j = false → RcLt A.in1 s items[j] items2[j] (r j)) ∧
        R (.ok (.ret (.bool (firstLt e r (decide (items.size < items2.size)) (List.range (min items.size items2.size)))))) s) :=
  .of_wp fun prog w A R s h => by
    obtain ⟨hp, g, d, tk, os⟩ := s
    obtain ⟨hl, hb, he, hr, h⟩ := h
    have f2 := AutoSeq1.sub_tuple_tuple
    have hZ : (items.toList.zip items2.toList).length = min items.size items2.size := by simp
    wp_walk using wpAny_loadPart' hl, wpAny_loadPart' hb, wpAny_forIn_list _ (fun rest b s' => b.1 = none ∧ s' = ⟨hp, g, d, tk, os⟩ ∧ ∃ i, rest = (items.toList.zip items2.toList).drop i ∧ (∀ k, k < i → e k = true) ∧ R (.ok (.ret (.bool (firstLt e r (decide (items.size < items2.size)) ((List.range (min items.size items2.size)).drop i))))) ⟨hp, g, d, tk, os⟩) _
    case turn =>
      rintro ⟨y, x⟩ rest b s' ⟨hb', rfl, i, hz, hk, hR⟩
      have hlt : i < (items.toList.zip items2.toList).length := by
        by_cases q : i < (items.toList.zip items2.toList).length
        · exact q
        · rw [List.drop_of_length_le (Nat.le_of_not_lt q)] at hz; cases hz
      have hm : i < min items.size items2.size := hZ ▸ hlt
      have h1 : i < items.size := by omega
      have h2 : i < items2.size := by omega
      rw [List.drop_eq_getElem_cons hlt] at hz
      injection hz with hyx hrest
      obtain ⟨hy, hx⟩ : y = items[i] ∧ x = items2[i] := ⟨by simpa using congrArg Prod.fst hyx, by simpa using congrArg Prod.snd hyx⟩
      subst hy hx
      have hd : (List.range (min items.size items2.size)).drop i = i :: (List.range (min items.size items2.size)).drop (i + 1) := by simp [List.drop_eq_getElem_cons, hm]
      rw [hd] at hR
      refine wpAny_bind (he i h1 h2 prog w _ _ ?_)
      cases hy : e i with
      | true =>
        rw [firstLt_yes hy] at hR
        wp_walk
        refine ⟨rfl, rfl, i + 1, hrest, fun k hk' => ?_, hR⟩
        by_cases q : k = i
        · rw [q]; exact hy
        · exact hk k (by omega)
      | false =>
        rw [firstLt_no hy] at hR
        have q1 : ∀ {E' : Value → Shared → Prop} {Q' : Value → Shared → Prop}, Q' (.bool (r i)) ⟨hp, g, d, tk, os⟩ → wpAny (model prog w) A.in1 (richCompare .Lt items[i] items2[i]) Q' E' ⟨hp, g, d, tk, os⟩ := fun q => hr i h1 h2 hk hy prog w _ _ q
        wp_walk using q1
        exact ⟨_, rfl, hR⟩
    case fin =>
      rintro ⟨b1, b2⟩ s' ⟨hb', rfl, i, hz, _, hR⟩
      simp only at hb'
      subst hb'
      have hge : min items.size items2.size ≤ i := by
        by_cases q : i < (items.toList.zip items2.toList).length
        · rw [List.drop_eq_getElem_cons q] at hz; cases hz
        · rw [hZ] at q; exact Nat.le_of_not_lt q
      rw [List.drop_of_length_le (by simpa using hge)] at hR
      wp_walk
      exact ⟨_, rfl, by simpa [Builtin.Tuple.tupleCompareSizes, firstLt] using hR⟩
    case h => exact ⟨rfl, rfl, 0, rfl, (fun k hk => absurd hk (Nat.not_lt_zero k)), by simpa using h⟩
theorem RcLt.dl_tuples {A : Around} {s : Shared} {l b : Addr} {items items2 : Array Value} {e r : Nat → Bool} (hl : s.heap.IsTuple l items) (hb : s.heap.IsTuple b items2) (hu : A.units < cLine)
    (he : ∀ j (h1 : j < items.size) (h2 : j < items2.size), EqAt A.in1 s items[j] items2[j] (e j)) (hr : ∀ j (h1 : j < items.size) (h2 : j < items2.size), (∀ k, k < j → e k = true) → e j = false → RcLt A.in1 s items[j] items2[j] (r j)) :
    RcLt A s (.ref l) (.ref b) (firstLt e r (decide (items.size < items2.size)) (List.range (min items.size items2.size))) := fun prog w E Q h => by
  obtain ⟨⟨c1, d1, dt1, sl⟩, ho, hc, n, hd⟩ := id hl
  obtain ⟨⟨c2, d2, dt2, sl2⟩, ho2, hc2, n2, hd2⟩ := id hb
  simp only at hc hd hc2 hd2
  subst hc hd hc2 hd2
  refine richCompare_meets_room (op := .Lt) ⟨_, ho, rfl⟩ ⟨_, ho2, rfl⟩ F.slot_tuple_lt F.entry_tuple_lt (F.args_tuple_lt_2 _ _) (dl_tuple_lt l b items items2 n n2 d1 d2 sl sl2 e r) ⟨ho, ho2, he, hr, ?_⟩ hu
  exact show _ ∧ _ from ⟨(fun x => nomatch x), h⟩
end PySem.SeqAt
namespace PySem.W
open PySem PySem.Calls PyProof.Rows
/-- an int or a text -/
def atomP : PyData → Bool | .int _ => true | .str _ => true | _ => false
/-- pairs of a whole number and an atom -/
def rankP : PyData → Bool | .tuple [.int _, x] => atomP x | _ => false
theorem rankP_of {d : PyData} (h : rankP d = true) : ∃ t x, d = .tuple [.int t, x] ∧ atomP x = true := by
  unfold rankP at h
  split at h
  · exact ⟨_, _, rfl, h⟩
  · cases h
/-- two such pairs that can be compared -/
def rankQ : PyData → PyData → Bool
  | .tuple [.int t, x], .tuple [.int t', x'] => !decide (t = t') || alike x x'
  | _, _ => false
theorem atom_ne {x : PyData} (h : atomP x = true) : x ≠ .none ∧ ∀ xs, x ≠ .tuple xs := by
  cases x with
  | int i => exact ⟨(fun z => nomatch z), (fun _ z => nomatch z)⟩
  | str i => exact ⟨(fun z => nomatch z), (fun _ z => nomatch z)⟩
  | _ => cases h
theorem atom_plain {x : PyData} (h : atomP x = true) : x.plain = true ∧ x.depth = 0 := by
  cases x <;> first | (exact ⟨rfl, rfl⟩) | cases h
theorem alike_ii (i j : Int) : alike (.int i) (.int j) = true := by simp [alike]
theorem eqv_ii' (i j : Int) : PyData.eqv (.int i) (.int j) = decide (i = j) := by
  simp only [PyData.eqv]
  by_cases h : i = j
  · rw [decide_eq_true h]; exact beq_iff_eq.mpr h
  · rw [decide_eq_false h]; exact beq_eq_false_iff_ne.mpr h
theorem rank_lt {t t' : Int} {x x' : PyData} : PyProof.Rows.lexLt itemOrd (keyToksAll [.int t, x]) (keyToksAll [.int t', x']) = if t = t' then PyProof.Rows.lexLt itemOrd (keyToksAll [x]) (keyToksAll [x']) else decide (t < t') := by
  by_cases h : t = t'
  · rw [if_pos h, dataLt_all_yes (alike_ii t t') (by rw [eqv_ii']; exact decide_eq_true h)]
  · rw [if_neg h, dataLt_all_no (alike_ii t t') (by rw [eqv_ii']; exact decide_eq_false h), dataLt_int]
theorem one_lt {x x' : PyData} (h : alike x x' = true) : PyProof.Rows.lexLt itemOrd (keyToksAll [x]) (keyToksAll [x']) = if PyData.eqv x x' = true then false else dataLt x x' := by
  by_cases e : PyData.eqv x x' = true
  · rw [if_pos e, dataLt_all_yes h e, lex_irrefl]
  · rw [if_neg e, dataLt_all_no h (by simpa using e)]
/-- what < gives of two such pairs -/
def rankLt : PyData → PyData → Bool
  | .tuple [.int t, x], .tuple [.int t', x'] => if t = t' then (if PyData.eqv x x' = true then false else dataLt x x') else decide (t < t')
  | _, _ => false
theorem rankLt_def (t t' : Int) (x x' : PyData) : rankLt (.tuple [.int t, x]) (.tuple [.int t', x']) = if t = t' then (if PyData.eqv x x' = true then false else dataLt x x') else decide (t < t') := rfl
section
variable {prog : Program} {w : World} {A : Around} {E : Value → Shared → Prop} {s : Shared}
theorem rc_rank {da db : PyData} {a b : Value} {as bs : List Addr} (ra : Reads s.heap a da as) (rb : Reads s.heap b db bs) (ha : rankP da = true) (hb : rankP db = true) (hq : rankQ da db = true) (hu : A.units + 1 < cLine) : SeqAt.RcLt A s a b (rankLt da db) := by
  obtain ⟨t, x, rfl, hx⟩ := rankP_of ha
  obtain ⟨t', x', rfl, hx'⟩ := rankP_of hb
  cases ra with
  | @tuple l o vs n _ as₁ h1 h2 h3 h4 =>
    cases rb with
    | @tuple l' o' vs' n' _ bs₁ k1 k2 k3 k4 =>
      obtain ⟨vs⟩ := vs
      obtain ⟨vs'⟩ := vs'
      cases h4 with
      | @cons v1 _ _ _ _ _ r1 h4 => cases h4 with
        | @cons v2 _ _ _ _ _ r2 h4 => cases h4; cases k4 with
          | @cons w1 _ _ _ _ _ q1 k4 => cases k4 with
            | @cons w2 _ _ _ _ _ q2 k4 =>
              cases k4
              have eq1 : SeqAt.EqAt A.in1 s v1 w1 (decide (t = t')) := by
                have z := SeqAt.eqAt_plain (.int t) (.int t') A.in1 s v1 w1 _ _ r1 q1 rfl rfl (by show A.units + 1 + 0 < cLine; omega)
                rw [eqv_ii'] at z; exact z
              have eq2 : SeqAt.EqAt A.in1 s v2 w2 (PyData.eqv x x') := SeqAt.eqAt_plain x x' A.in1 s v2 w2 _ _ r2 q2 (atom_plain hx).1 (atom_plain hx').1 (by rw [(atom_plain hx).2]; show A.units + 1 + min 0 _ < cLine; rw [Nat.zero_min]; omega)
              have res := SeqAt.RcLt.dl_tuples (A := A) (s := s) (l := l) (b := l') (items := #[v1, v2]) (items2 := #[w1, w2]) (e := fun j => if j = 0 then decide (t = t') else PyData.eqv x x') (r := fun j => if j = 0 then decide (t < t') else dataLt x x')
                ⟨_, h1, h2, _, h3⟩ ⟨_, k1, k2, _, k3⟩ (by omega) (fun j j1 j2 => ?_) (fun j j1 j2 pre hj => ?_)
              · have e3 : SeqAt.firstLt (fun j => if j = 0 then decide (t = t') else PyData.eqv x x') (fun j => if j = 0 then decide (t < t') else dataLt x x') (decide ((#[v1, v2] : Array Value).size < (#[w1, w2] : Array Value).size)) (List.range (min (#[v1, v2] : Array Value).size (#[w1, w2] : Array Value).size)) = rankLt (.tuple [.int t, x]) (.tuple [.int t', x']) := by
                  show SeqAt.firstLt _ _ false [0, 1] = _
                  rw [rankLt_def]
                  by_cases h : t = t'
                  · rw [SeqAt.firstLt_yes (by simp [h]), if_pos h]
                    cases q : PyData.eqv x x' with
                    | true => rw [SeqAt.firstLt_yes (by simp [q])]; rfl
                    | false => rw [SeqAt.firstLt_no (by simp [q])]; simp
                  · rw [SeqAt.firstLt_no (by simp [h]), if_neg h]; simp
                rw [e3] at res; exact res
              · match j, j1, j2 with
                | 0, _, _ => exact eq1
                | 1, _, _ => exact eq2
              · match j, j1, j2, pre, hj with
                | 0, _, _, _, hj =>
                  have z := rcLt_alike (.int t) (.int t') A.in1 s v1 w1 _ _ r1 q1 (alike_ii t t') (fun z => nomatch z) (by show A.units + 1 + 0 < cLine; omega)
                  rw [dataLt_int] at z; exact z
                | 1, _, _, pre, hj =>
                  have e0 : t = t' := by simpa using pre 0 (by omega)
                  have al : alike x x' = true := by
                    have hq' : (!decide (t = t') || alike x x') = true := hq
                    simpa [e0] using hq'
                  exact rcLt_alike x x' A.in1 s v2 w2 _ _ r2 q2 al (atom_ne hx).1 (by rw [(atom_plain hx).2]; show A.units + 1 + min 0 _ < cLine; rw [Nat.zero_min]; omega)
/-- da < db -/
theorem lt_rank {da db : PyData} {a b : Value} {as bs : List Addr} {Q : Value → Shared → Prop} (ra : Reads s.heap a da as) (rb : Reads s.heap b db bs) (ha : rankP da = true) (hb : rankP db = true) (hq : rankQ da db = true) (hu : A.units + 1 < cLine) (h : Q (.bool (rankLt da db)) s) :
    wpAny (model prog w) A (compareOp .Lt a b) Q E s := rc_rank ra rb ha hb hq hu prog w E Q h
theorem rankLt_eq {da db : PyData} (ha : rankP da = true) (hb : rankP db = true) (hq : rankQ da db = true) : rankLt da db = dataLt da db := by
  obtain ⟨t, x, rfl, hx⟩ := rankP_of ha
  obtain ⟨t', x', rfl, hx'⟩ := rankP_of hb
  rw [dataLt_tuple, rank_lt]
  rw [rankLt_def]
  by_cases h : t = t'
  · rw [if_pos h, if_pos h]
    have al : alike x x' = true := by
      have hq' : (!decide (t = t') || alike x x') = true := hq
      simpa [h] using hq'
    rw [one_lt al]
  · rw [if_neg h, if_neg h]

def AllRank (ds : List PyData) : Prop := (∀ d ∈ ds, rankP d = true) ∧ ∀ d ∈ ds, ∀ d' ∈ ds, rankQ d d' = true
theorem rankP_plain {d : PyData} (h : rankP d = true) : d.plain = true := by
  obtain ⟨t, x, rfl, hx⟩ := rankP_of h
  show PyData.plainAll [.int t, x] = true
  show (true && (x.plain && true)) = true
  rw [(atom_plain hx).1]; rfl
theorem rank_some {h : Heap} {ds : List PyData} (hal : AllRank ds) {v : Value} {d : PyData} {as : List Addr} (hd : d ∈ ds) (r : Reads h v d as) : (dataKind h ds).keyOf v = some (keyToks d) := by
  have q : ∃ d, d ∈ ds ∧ ∃ as, Reads h v d as := ⟨d, hd, as, r⟩
  have e : (dataKind h ds).keyOf v = some (keyToks q.choose) := dif_pos q
  obtain ⟨h1, as', h2⟩ := q.choose_spec
  rw [e, SeqAt.plain_unique _ _ _ _ _ (rankP_plain (hal.1 _ h1)) h2 r]
theorem each_rank {h : Heap} {ds : List PyData} (hal : AllRank ds) {vs : List Value} (e : EachIs (fun v d => ∃ as, Reads h v d as) vs ds) : EachIs (fun v d => (dataKind h ds).keyOf v = some (keyToks d)) vs ds :=
  (each_mem e).mono fun _ _ ⟨⟨_, r⟩, hd⟩ => rank_some hal hd r
theorem SortsAt.rank {vs : List Value} {ds : List PyData} (e : EachIs (fun v d => ∃ as, Reads s.heap v d as) vs ds) (hal : AllRank ds) (hu : A.units + 2 < cLine) : SortsAt prog w A s (dataKind s.heap ds) vs := by
  refine ⟨fun v hv => ?_, tuples' true, ?_, fun h2 E Q hq => ?_⟩
  · obtain ⟨d, hd, as, r⟩ := e.left v hv
    exact ⟨_, rank_some hal hd r⟩
  · intro E x y a b Q ha hb hq
    obtain ⟨d, as, hd, ra, rfl⟩ := dataKind_inv ha
    obtain ⟨d', as', hd', rb, rfl⟩ := dataKind_inv hb
    have hq' : Q (dataLt d d') s := hq
    have hqq := hal.2 d hd d' hd'
    rw [← rankLt_eq (hal.1 d hd) (hal.1 d' hd') hqq] at hq'
    obtain ⟨t, x1, rfl, hx⟩ := rankP_of (hal.1 d hd)
    obtain ⟨t', x2, rfl, hx'⟩ := rankP_of (hal.1 d' hd')
    cases ra with
    | @tuple l o vs1 n _ as₁ h1 h2 h3 h4 =>
      cases rb with
      | @tuple l' o' vs2 n' _ bs₁ k1 k2 k3 k4 =>
        obtain ⟨vs1⟩ := vs1
        obtain ⟨vs2⟩ := vs2
        cases h4 with
        | @cons v1 _ _ _ _ _ r1 h4 => cases h4 with
          | @cons v2 _ _ _ _ _ r2 h4 => cases h4; cases k4 with
            | @cons w1 _ _ _ _ _ q1 k4 => cases k4 with
              | @cons w2 _ _ _ _ _ q2 k4 =>
                cases k4
                refine kat_lt h1 h3 k1 k3 ?_
                show KatLex prog w A true false Q [(v1, w1), (v2, w2)] 0 s
                refine kat_cons (SeqAt.eqAt_plain (.int t) (.int t') A s v1 w1 _ _ r1 q1 rfl rfl (by show A.units + 0 < cLine; omega) prog w _ _ ?_)
                rw [eqv_ii']
                rw [rankLt_def] at hq'
                by_cases ht : t = t'
                · rw [decide_eq_true ht]
                  rw [if_pos ht] at hq'
                  have al : alike x1 x2 = true := by
                    have hq2 : (!decide (t = t') || alike x1 x2) = true := hqq
                    simpa [ht] using hq2
                  refine kat_yes (kat_cons (SeqAt.eqAt_plain x1 x2 A s v2 w2 _ _ r2 q2 (atom_plain hx).1 (atom_plain hx').1 (by rw [(atom_plain hx).2, Nat.zero_min]; omega) prog w _ _ ?_))
                  cases hxe : PyData.eqv x1 x2 with
                  | true => rw [if_pos hxe] at hq'; exact kat_yes (kat_nil hq')
                  | false =>
                    rw [if_neg (by rw [hxe]; exact Bool.false_ne_true)] at hq'
                    exact kat_no (oneLt_alike (f := true && 0 + 1 == 0) (fun z => absurd z (by decide)) r2 q2 al (atom_ne hx).1 (by rw [(atom_plain hx).2, Nat.zero_min]; omega) hq')
                · rw [decide_eq_false ht]
                  rw [if_neg ht] at hq'
                  refine kat_no (oneLt_alike (fun _ xs z => by cases z) r1 q1 (alike_ii t t') (fun z => nomatch z) (by show A.units + 0 < cLine; omega) ?_)
                  rw [dataLt_int]; exact hq'
  · have ht : ∀ d, d ∈ ds → ∃ x r, d = .tuple (x :: r) := fun d hd => by
      obtain ⟨t, x, rfl, _⟩ := rankP_of (hal.1 d hd)
      exact ⟨_, _, rfl⟩
    obtain ⟨fs, t1, t2, t3⟩ := each_katTups e ht
    refine kat_kind (T := .type "int") t1 (by omega) (fun f hf => ?_) (beq_self_eq_true _) hq
    obtain ⟨x, r, as, m1, m2⟩ := t3 f hf
    obtain ⟨t, y, e2, _⟩ := rankP_of (hal.1 _ m1)
    cases e2
    exact looks_reads m2
end
end PySem.W

set_option Elab.async false
set_option linter.all false
set_option maxRecDepth 100000
namespace PySem.W
open PySem PySem.Calls PyProof.Rows
section
variable {prog : Program} {w : World} {A : Around} {E : Value → Shared → Prop} {s : Shared} {a kS : Addr} {b : Bool} {vs : List Value} {e1 : Nat} {P : PySem.Fin → Shared → Prop} {f : Value}
/-- the key's turns, J what stands behind i of them -/
theorem dlk_rest (J : Nat → Array Value → Shared → Prop) (hJ : ∀ i ks s', J i ks s' → ks.size = i ∧ ∃ e, s'.heap.get? kS = some (seqObj "list" ks e)) (hZ : vs.length ≤ sizeLine) (start : J 0 #[] s)
    (turn : ∀ (i : Nat) (v : Value) (ks : Array Value) (s' : Shared), vs[i]? = some v → J i ks s' →
      wpAny (model prog w) A (call f [v]) (fun u s'' => (∃ e, s''.heap.get? kS = some (seqObj "list" ks e)) ∧ J (i + 1) (ks.push u) { s'' with heap := s''.heap.update kS (Obj.mapSeq (·.push u)) }) (fun _ _ => False) s')
    (fin : ∀ ks s', J vs.length ks s' → wpAny (model prog w) A (ksk_end a b vs.toArray e1 (.ref kS) ks) P E s') :
    wpAny (model prog w) A (ksk_rest a f b vs.toArray e1 (.ref kS)) P E s := by
  unfold ksk_rest
  refine wpAny_bind (wpAny_rule ?_)
  first
    | rw [List.forIn_toArray]
    | (rw [← Array.forIn_toList]; simp only [List.toList_toArray])
    | rw [← Array.forIn_toList]
  refine wpAny_bind (ksk_fold (fun i s' => ∃ ks, J i ks s') vs 0 s ⟨#[], start⟩ ?goOn ?atEnd)
  case goOn =>
    rintro j x s' hx ⟨ks, hj⟩
    rw [Nat.zero_add] at hj ⊢
    have hlt : j < vs.length := (List.getElem?_eq_some_iff.mp hx).1
    refine wpAny_bind (wpAny_attempt (wpAny_mono (turn j x ks s' hx hj) (fun v s'' he => ?_) fun _ _ hF => hF.elim))
    obtain ⟨⟨e, nk⟩, hj'⟩ := he
    try dsimp only
    have hs := (hJ j ks s' hj).1
    exact wpAny_bind (listUpdate_at nk rfl (wpAny_pure ⟨rfl, _, hj'⟩) (by omega) (by rw [Array.size_push]; omega))
  case atEnd =>
    rintro s' ⟨ks, hj⟩
    rw [Nat.zero_add] at hj
    obtain ⟨_, e, nk⟩ := hJ _ ks s' hj
    try dsimp only
    exact wpAny_bind (listItems_at nk rfl (fin ks s' hj))
theorem dlk_tree {n : Nat} (ho : s.heap.get? a = some (seqObj "list" vs.toArray n)) (hZ : vs.length ≤ sizeLine)
    (body : ∀ (q : Addr) (e1 : Nat) (h' : Heap), q ≠ a → s.heap.objs.size ≤ q → KeepsBut a s.heap h' → h'.get? q = some (seqObj "list" #[] 0) → h'.get? a = some (seqObj "list" #[] e1) →
      wpAny (model prog w) A (ksk_rest a f b vs.toArray e1 (.ref q)) P E { s with heap := h' }) :
    wpAny (model prog w) A (ksk_tree a f b) P E s := by
  have ha : a < s.heap.objs.size := Heap.lt_size ho
  obtain ⟨e1, ho1⟩ : ∃ e1, (s.heap.update a (Obj.mapSeq fun _ => (#[] : Array Value))).get? a = some (seqObj "list" #[] e1) := ⟨_, get?_update_seq ho fun _ => #[]⟩
  have hkS : ((s.heap.update a (Obj.mapSeq fun _ => (#[] : Array Value))).push (seqObj "tuple" vs.toArray 0)).objs.size = s.heap.objs.size + 1 := by rw [size_push', Heap.size_update]
  unfold ksk_tree
  refine wpAny_bind (listItems_at ho rfl ?_)
  refine wpAny_bind (listUpdate_at ho rfl ?_ (by rw [List.size_toArray]; exact hZ) (Nat.zero_le _))
  refine wpAny_bind (seqEpoch_at ho1 rfl ?_)
  refine wpAny_bind (wpAny_newTuple ?_ (by show vs.length ≤ _; exact hZ))
  refine wpAny_bind (wpAny_newList ?_ (Nat.zero_le _))
  refine wpAny_holding ?_
  exact body _ _ _ (by rw [hkS]; exact Nat.ne_of_gt (Nat.lt_succ_of_lt ha)) (by rw [hkS]; exact Nat.le_succ _) (fun b o hb q => sortingHeap_old hb q) (Heap.get?_push_size _ rfl) (Heap.get?_push_of_some _ (Heap.get?_push_of_some _ ho1))
/-- sorted(src, ..): the items are collected, laid as a list, sorted -/
theorem dlk_sorted {src : Value} {kw : List (Str × Value)} {Q : Value → Shared → Prop} (P0 : Heap → Nat → List Value → Prop) (hL : ∀ h' tk vs, P0 h' tk vs → vs.length ≤ sizeLine)
    (hc : ∀ (E' : Value → Shared → Prop) (Q' : List Value → Shared → Prop), (∀ h' tk vs, P0 h' tk vs → Q' vs { s with heap := h', toks := tk }) → wpAny (model prog w) A.in1 (collect src) Q' E' s)
    (ha1 : argsOk "sorted" ⟨[src], kw⟩) (ha2 : ∀ x, argsOk "list.sort" ⟨[.ref x], kw⟩)
    (body : ∀ (E' : Value → Shared → Prop) h' tk vs, P0 h' tk vs → wpAny (model prog w) A.in1.in1 (Builtin.«list.sort» ⟨[.ref h'.objs.size], kw⟩) (fun fl s' => fl = .done (.ret .none) ∧ Q (.ref h'.objs.size) s') E' { s with heap := h'.push (seqObj "list" vs.toArray 0), toks := tk }) :
    wpAny (model prog w) A (call (.builtin "sorted") [src] kw) Q E s := by
  refine call_function_entry_kw kind_sorted plain_sorted entry_sorted ha1 ?_
  unfold Builtin.«sorted»
  refine wpAny_bind (m := checkCount "sorted" 1 1 _) (wpAny_pure ?_)
  refine wpAny_bind (hc _ _ fun h' tk vs hp => ?_)
  refine wpAny_bind (wpAny_newList ?_ (hL h' tk vs hp))
  refine wpAny_bind (wpAny_holding (wpAny_call_entry_kw slot_list_sort ⟨_, Heap.get?_push_size _ rfl, rfl⟩ entry_list_sort ?_ (ha2 _)))
  refine wpAny_mono (body _ h' tk vs hp) (fun f s' hf => ?_) fun _ _ e => e
  obtain ⟨e1, hq⟩ := hf
  subst e1
  exact ⟨_, rfl, wpAny_pure ⟨_, rfl, hq⟩⟩
end
end PySem.W
namespace DL
open PySem PySem.Spec PyProof.Rows L2
open PySem.W (EachIs)

noncomputable def keysL (F : D → Hd → Res D) : List D → Hd → Res (List D)
  | [], h => .ok [] h
  | d :: ds, h => (F d h).bind fun k h1 => (keysL F ds h1).bind fun ks h2 => .ok (k :: ks) h2
structure SortsOk (ks : List D) : Prop where
  pure : D.pures ks = true
  ord : (PySem.W.AllAlike (ks.map D.py) ∧ PySem.W.Sortable (ks.map D.py)) ∨ PySem.W.AllRank (ks.map D.py)
  depth : ∀ k ∈ ks, k.depth ≤ 40
theorem SortsOk.at {ks : List D} (so : SortsOk ks) {prog : Program} {w : World} {A : Around} {s : Shared} {vs : List Value} (e : EachIs (fun v d => ∃ as, Reads s.heap v d as) vs (ks.map D.py)) (hu : A.units + 50 < cLine) :
    PySem.W.SortsAt prog w A s (PySem.W.dataKind s.heap (ks.map D.py)) vs ∧ EachIs (fun v d => (PySem.W.dataKind s.heap (ks.map D.py)).keyOf v = some (PySem.W.keyToks d)) vs (ks.map D.py) := by
  rcases so.ord with ⟨h1, h2⟩ | h
  · refine ⟨.data e h1 h2 fun d hd => ?_, PySem.W.each_keys h1 e⟩
    obtain ⟨k, hk, rfl⟩ := List.mem_map.mp hd
    have h3 := so.depth k hk
    have h4 : k.depth = k.py.depth := rfl
    omega
  · exact ⟨.rank e h (by omega), PySem.W.each_rank h e⟩
noncomputable def sortB (bs : List (D × D)) : List D := (bs.mergeSort (PySem.W.dataLe false fun p => p.2.py)).map (·.1)
theorem keysL_cons {F : D → Hd → Res D} {d : D} {ds : List D} {h h2 : Hd} {r : List D} (e : keysL F (d :: ds) h = .ok r h2) : ∃ k h1 ks, F d h = .ok k h1 ∧ keysL F ds h1 = .ok ks h2 ∧ r = k :: ks := by
  show ∃ k h1 ks, _
  unfold keysL at e
  cases q : F d h with
  | ok k h1 =>
    rw [q, Res.bind_ok] at e
    cases q2 : keysL F ds h1 with
    | ok ks h3 => rw [q2, Res.bind_ok] at e; cases e; exact ⟨k, h1, ks, rfl, q2, rfl⟩
    | ex x h3 => rw [q2] at e; cases e
    | bad => rw [q2] at e; cases e
  | ex x h1 => rw [q] at e; cases e
  | bad => rw [q] at e; cases e
theorem keysL_len {F : D → Hd → Res D} : ∀ {ds : List D} {h h2 : Hd} {r : List D}, keysL F ds h = .ok r h2 → r.length = ds.length
  | [], _, _, _, e => by cases e; rfl
  | d :: ds, _, _, _, e => by
    obtain ⟨k, h1, ks, _, e2, rfl⟩ := keysL_cons e
    rw [List.length_cons, List.length_cons, keysL_len e2]

/-- objects that stand besides the places -/
def Live (live : List (Addr × HO)) (H : Hp) (m : List Addr) : Prop := ∀ p ∈ live, H p.1 = some p.2 ∧ p.1 ∉ m ∧ ∀ ps, p.2 ≠ .tbl ps
theorem Live.ext {live : List (Addr × HO)} {H H' : Hp} {m m' : List Addr} (l : Live live H m) (x : Ext H m H' m') : Live live H' m' := fun p hp => by
  obtain ⟨h1, h2, h3⟩ := l p hp
  refine ⟨x.keep _ _ h2 h1 h3, fun z => ?_, h3⟩
  obtain ⟨e', rfl, q⟩ := x.pre
  rcases List.mem_append.mp z with z | z
  · exact h2 z
  · obtain ⟨ps, w⟩ := (q _ z).1 _ h1
    exact h3 ps w
/-- f's call on one value, inside sorted -/
def KCall (X : Cx) (g : Gd) (f : Value) (pins0 : List (Addr × Obj)) (live : List (Addr × HO)) (F : D → Hd → Res D) : Prop :=
  ∀ (pins : List (Addr × Obj)) (s : Shared) (σ : L2.St) (H : Hp) (m : List Addr) (h : Hd) (x : V) (d : D) (u : Value) (k : D) (h1 : Hd), pins0 ⊆ pins → Inv X pins σ H s → RelV x u → Rel g H m h → Live live H m → DV g.K H m x d → F d h = .ok k h1 →
    wpAny (model X.prog X.w) X.A.in1.in1 (call f [u]) (EP X pins σ fun v H' => ∃ m', Ext H m H' m' ∧ Rel g H' m' h1 ∧ DV g.K H' m' v k) (fun _ _ => False) s
theorem each_of {α β : Type} {R : α → β → Prop} : ∀ {as : List α} {bs : List β}, as.length = bs.length → (∀ (i : Nat) a b, as[i]? = some a → bs[i]? = some b → R a b) → EachIs R as bs
  | [], [], _, _ => .nil
  | [], _ :: _, h, _ => by cases h
  | _ :: _, [], h, _ => by cases h
  | a :: as, b :: bs, h, f => .cons (f 0 a b rfl rfl) (each_of (by simpa using h) fun i x y e1 e2 => f (i + 1) x y (by simpa using e1) (by simpa using e2))
theorem each_at {α β : Type} {R : α → β → Prop} : ∀ {as : List α} {bs : List β} {i : Nat} {b : β}, EachIs R as bs → bs[i]? = some b → ∃ a, as[i]? = some a ∧ R a b
  | _, _, _, _, .nil, e => by simp at e
  | _, _, 0, _, .cons r _, e => by simp at e; subst e; exact ⟨_, rfl, r⟩
  | _, _, i + 1, b, .cons _ t, e => by
    obtain ⟨u, h1, h2⟩ := each_at (i := i) (b := b) t (by simpa using e)
    exact ⟨u, by simpa using h1, h2⟩
theorem each_len {α β : Type} {R : α → β → Prop} : ∀ {as : List α} {bs : List β}, EachIs R as bs → as.length = bs.length
  | _, _, .nil => rfl
  | _, _, .cons _ t => congrArg (· + 1) (each_len t)
/-- values that stand for data: split into the layer's values -/
theorem each_dvs {g : Gd} {H : Hp} {m : List Addr} : ∀ {us : List Value} {ds : List (D × D)}, EachIs (fun u d => ∃ x, RelV x u ∧ DV g.K H m x d.1) us ds → ∃ xs, Vals xs us ∧ DVs g.K H m xs (ds.map (·.1))
  | _, _, .nil => ⟨[], .nil, .nil⟩
  | _, _, .cons ⟨x, r, d⟩ t => by
    obtain ⟨xs, h1, h2⟩ := each_dvs t
    exact ⟨x :: xs, .cons r h1, .cons d h2⟩
theorem vals_get' {xs : List V} {us : List Value} {i : Nat} {u : Value} (r : Vals xs us) (e : us[i]? = some u) : ∃ x, xs[i]? = some x ∧ RelV x u := by
  have hi : i < xs.length := by rw [r.length]; exact (List.getElem?_eq_some_iff.mp e).1
  obtain ⟨w, h1, h2⟩ := r.get (List.getElem?_eq_getElem hi)
  rw [e] at h1
  cases h1
  exact ⟨_, List.getElem?_eq_getElem hi, h2⟩
theorem pures_at : ∀ {ds : List D} {d : D}, D.pures ds = true → d ∈ ds → d.pure = true
  | [], _, _, h => nomatch h
  | x :: xs, d, p, h => by
    have p' : (x.pure && D.pures xs) = true := p
    rw [Bool.and_eq_true] at p'
    rcases List.mem_cons.mp h with rfl | h
    · exact p'.1
    · exact pures_at p'.2 h
section
variable {X : Cx} {g : Gd} {pins pins0 : List (Addr × Obj)} {live : List (Addr × HO)} {s : Shared} {σ : L2.St} {H : Hp} {m : List Addr} {h h1 : Hd} {a : Addr} {xs : List V} {ds ks : List D} {f : Value} {F : D → Hd → Res D} {E : Value → Shared → Prop} {Q : VK}
theorem Inv.unpin {pins' : List (Addr × Obj)} (I : Inv X pins' σ H s) (hp : pins ⊆ pins') : Inv X pins σ H s :=
  ⟨I.ok, I.os, I.bare, I.base, I.loc, I.cell, I.free, I.freeC, fun p z => I.pin p ((List.mem_append.mp z).elim (fun z => List.mem_append_left _ z) fun z => List.mem_append_right _ (hp z)), I.hok, I.len⟩
/-- the items of a thing that is walked once -/
def Src (X : Cx) (g : Gd) (pins : List (Addr × Obj)) (s : Shared) (σ : L2.St) (H : Hp) (m : List Addr) (h : Hd) (v : Value) (ds : List D) : Prop :=
  ∀ (A' : Around) (E' : Value → Shared → Prop) (Q' : List Value → Shared → Prop), A'.handled = none →
    (∀ h' tk H' xs vs, Inv X pins σ H' { s with heap := h', toks := tk } → Ext H m H' m → Rel g H' m h → Vals xs vs → DVs g.K H' m xs ds → Q' vs { s with heap := h', toks := tk }) → wpAny (model X.prog X.w) A' (collect v) Q' E' s
theorem sort_core {its : List Value} {a0 kS : Addr} {hh : Heap} {e1 : Nat} {E' : Value → Shared → Prop} (hK : X.K = g.K) (hu : X.A.units + 100 < cLine) (hf : KCall X g f pins0 live F) (hp : pins0 ⊆ pins) (I : Inv X pins σ H s) (rv : Vals xs its) (r : Rel g H m h) (lv : Live live H m) (q : DVs g.K H m xs ds) (ek : keysL F ds h = .ok ks h1) (so : SortsOk ks)
    (hZ : its.length ≤ sizeLine) (hA : s.heap.objs.size ≤ a0) (nka : kS ≠ a0) (hkS : s.heap.objs.size ≤ kS) (kp : ∀ b o, s.heap.get? b = some o → hh.get? b = some o) (nk : hh.get? kS = some (seqObj "list" #[] 0)) (na : hh.get? a0 = some (seqObj "list" #[] e1))
    (fin : ∀ H' m' p ys, Ext H m H' m' → Rel g H' m' h1 → H' p = none → DVs g.K H' m' ys (sortB (ds.zip ks)) → Q (.ref p) (upd H' p (.lst ys))) :
    wpAny (model X.prog X.w) X.A.in1.in1 (ksk_rest a0 f false its.toArray e1 (.ref kS)) (fun fl s' => fl = .done (.ret .none) ∧ EP X pins σ Q (.ref a0) s') E' { s with heap := hh } := by
  have hlen := rv.length
  have hdl : ds.length = its.length := by rw [← hlen]; exact q.length.symm
  have I0 : Inv X pins σ H { s with heap := hh, toks := s.toks } := I.kept kp
  have nL : ∀ p, s.heap.objs.size ≤ p → p ≠ X.env.locals := fun p hp z => Nat.lt_irrefl _ (Nat.lt_of_lt_of_le I.lt (z ▸ hp))
  have nC : ∀ p, s.heap.objs.size ≤ p → ∀ x c, X.env.cells.lookup x = some c → c ≠ p := fun p hp x c e z => by
    obtain ⟨v, o, ho, _⟩ := I.cell x c e
    exact Nat.lt_irrefl _ (Nat.lt_of_lt_of_le (Heap.lt_size ho) (z ▸ hp))
  have nP : ∀ p, s.heap.objs.size ≤ p → ∀ z ∈ X.pn ++ pins, z.1 ≠ p := fun p hp z hz e => by
    exact Nat.lt_irrefl _ (Nat.lt_of_lt_of_le (Heap.lt_size (I.pin z hz).1) (e ▸ hp))
  have nX : ∀ p, s.heap.objs.size ≤ p → (p ∈ X.ex ∨ X.s_0.heap.objs.size ≤ p) := fun p hp => .inr (Nat.le_trans I.sz hp)
  let J : Nat → Array Value → Shared → Prop := fun i kv s' => kv.size = i ∧ (∃ e, s'.heap.get? kS = some (seqObj "list" kv e)) ∧ s'.heap.get? (a0) = some (seqObj "list" #[] e1) ∧
    ∃ H' m' h' acc rest xk, Inv X pins σ H' s' ∧ H' kS = none ∧ H' (a0) = none ∧ Ext H m H' m' ∧ Rel g H' m' h' ∧ Vals xk kv.toList ∧ DVs g.K H' m' xk acc ∧ keysL F (ds.drop i) h' = .ok rest h1 ∧ acc ++ rest = ks
  refine PySem.W.dlk_rest J (fun i kv s' hj => ⟨hj.1, hj.2.1⟩) hZ ⟨rfl, ⟨0, nk⟩, na, H, m, h, [], ks, [], I0, I.hok.fresh hkS, I.hok.fresh hA, .refl, r, .nil, .nil, ek, rfl⟩ ?turn ?done
  case turn =>
    rintro i v kv s' hv ⟨hsz, ⟨e, nk'⟩, na', H', m', h', acc, rest, xk, J', nH1, nH2, x', r', vk, dk, er, es⟩
    have hi : i < ds.length := by rw [hdl]; exact (List.getElem?_eq_some_iff.mp hv).1
    rw [List.drop_eq_getElem_cons hi] at er
    obtain ⟨k, h2, rest', e1', e2', rfl⟩ := keysL_cons er
    obtain ⟨y, hy, ry⟩ := vals_get' rv hv
    obtain ⟨d, hd, qd⟩ := q.get' hy
    rw [List.getElem?_eq_getElem hi] at hd
    cases hd
    have P' : Inv X ([(kS, seqObj "list" kv e), (a0, seqObj "list" #[] e1)] ++ pins) σ H' s' := by
      have nn : ∀ p, s.heap.objs.size ≤ p → p ∉ X.fs := fun p hp => I.nofs hp
      refine ⟨J'.ok, J'.os, J'.bare, J'.base, J'.loc, J'.cell, J'.free, J'.freeC, fun p z => ?_, J'.hok, J'.len⟩
      rcases List.mem_append.mp z with z | z
      · exact J'.pin p (List.mem_append_left _ z)
      · rcases List.mem_append.mp z with z | z
        · rcases List.mem_cons.mp z with rfl | z
          · exact ⟨nk', nH1, nL _ hkS, nn _ hkS, fun v z => nomatch z⟩
          · rw [List.mem_singleton.mp z]
            exact ⟨na', nH2, nL _ hA, nn _ hA, fun v z => nomatch z⟩
        · exact J'.pin p (List.mem_append_right _ z)
    refine wpAny_mono (hf _ s' σ H' m' h' y _ v k h2 (fun z hz => List.mem_append_right _ (hp hz)) P' ry r' (lv.ext x') (qd.stay (r.stay x')) e1') (fun u s'' he => ?_) fun _ _ z => z
    obtain ⟨vk2, H2, I2, rk2, m2, x2, r2, q2⟩ := he
    have p1 := I2.pin (kS, seqObj "list" kv e) (List.mem_append_right _ List.mem_cons_self)
    have p2 := I2.pin (a0, seqObj "list" #[] e1) (List.mem_append_right _ (List.mem_cons_of_mem _ List.mem_cons_self))
    have sb := Heap.SameBut.update s''.heap kS (Obj.mapSeq (·.push u))
    have I3 : Inv X pins σ H2 { s'' with heap := s''.heap.update kS (Obj.mapSeq (·.push u)), toks := s''.toks } :=
      (Inv.unpin I2 fun z hz => List.mem_append_right _ hz).turned (it := kS) (fun b o hb e => (sb.2 b hb).trans e) p1.2.1 (nL _ hkS).symm.symm (nX _ hkS) (nC _ hkS) (nP _ hkS)
    refine ⟨⟨e, p1.1⟩, by rw [Array.size_push, hsz], ⟨_, get?_update_seq p1.1 (·.push u)⟩, (sb.2 _ nka.symm).trans p2.1, H2, m2, h2, acc ++ [k], rest', xk ++ [vk2], I3, p1.2.1, p2.2.1, x'.trans x2, r2, ?_, (dk.stay (r'.stay x2)).append (.cons q2 .nil), e2', by rw [← es]; simp⟩
    rw [Array.toList_push]
    exact vk.append (.cons rk2 .nil)
  case done =>
    rintro kv s' ⟨hsz, ⟨e, nk'⟩, na', H', m', h', acc, rest, xk, J', nH1, nH2, x', r', vk, dk, er, es⟩
    rw [← hdl, List.drop_length] at er
    cases er
    rw [List.append_nil] at es
    subst es
    obtain ⟨G, g1, g2⟩ := L2.restrict s'.heap fun b => decide (b ≠ kS)
    have kl := keysL_len ek
    have hvl : kv.toList.length = acc.length := by rw [← vk.length, dk.length]
    have e2 : (ds.zip acc).map (fun p => p.2.py) = acc.map D.py := by
      have : (ds.zip acc).map (·.2) = acc := List.map_snd_zip (by omega)
      have z : (ds.zip acc).map (fun p => p.2.py) = ((ds.zip acc).map (·.2)).map D.py := by rw [List.map_map]; rfl
      rw [z, this]
    have kr : EachIs (fun v k => ∃ as, Reads s'.heap v k as) kv.toList (acc.map D.py) := each_of (by rw [List.length_map]; exact hvl) fun i v k e1 e2 => by
      rw [List.getElem?_map] at e2
      cases qk : acc[i]? with
      | none => rw [qk] at e2; cases e2
      | some k' =>
        rw [qk] at e2
        cases e2
        obtain ⟨x, hx, qx⟩ := dk.get qk
        obtain ⟨u, hu', ru⟩ := vk.get hx
        rw [e1] at hu'
        cases hu'
        exact DV.reads J' (by rw [hK]; exact qx) (pures_at so.pure (List.mem_of_getElem? qk)) ru
    have su := so.at (prog := X.prog) (w := X.w) (A := X.A.in1.in1) (s := s') kr (by have h2 : X.A.in1.in1.units = X.A.units + 2 := rfl; omega)
    refine PySem.W.keyH_end (κ := PySem.W.dataKind s'.heap (acc.map D.py)) (h₁ := G) (fun b o hb e => ?_) (g2 kS (decide_eq_false fun z => z rfl)) nk' na' nka su.1 hsz hZ fun h3 tk3 c k3 n3 => ⟨rfl, ?_⟩
    · by_cases z : b = kS
      · rw [z, g2 kS (decide_eq_false fun z => z rfl)] at e; cases e
      · rw [g1 b (decide_eq_true z)] at e; exact e
    · have hR : EachIs (fun v p => ∃ x, RelV x v ∧ DV g.K H' m' x (p : D × D).1) its (ds.zip acc) := each_of (by rw [List.length_zip]; omega) fun i v p e1 e2 => by
        rw [List.getElem?_zip_eq_some] at e2
        obtain ⟨y, hy, ry⟩ := vals_get' rv e1
        obtain ⟨d, hd, qd⟩ := q.get' hy
        rw [e2.1] at hd
        cases hd
        exact ⟨y, ry, qd.stay (r.stay x')⟩
      have kk2 : EachIs (fun v p => (PySem.W.dataKind s'.heap (acc.map D.py)).keyOf v = some (PySem.W.keyToks (p : D × D).2.py)) kv.toList (ds.zip acc) := PySem.W.each_of_map (fun p : D × D => p.2.py) (by rw [e2]; exact su.2)
      have eo : EachIs (fun v p => ∃ x, RelV x v ∧ DV g.K H' m' x (p : D × D).1) (PySem.W.sortVals (PySem.W.dataKind s'.heap (acc.map D.py)) false kv.toList its) ((ds.zip acc).mergeSort (PySem.W.dataLe false fun p => p.2.py)) :=
        PySem.W.sortVals_each (κ := PySem.W.dataKind s'.heap (acc.map D.py)) (fun p : D × D => PySem.W.keyToks p.2.py) hR kk2
      obtain ⟨ys, hv, hd⟩ := each_dvs eo
      have kk : ∀ b o, b ≠ kS → b ≠ a0 → s'.heap.get? b = some o → h3.get? b = some o := fun b o n1 n2 e => k3 b o n2 (by rw [g1 b (decide_eq_true n1)]; exact e)
      have lz : ys.length ≤ sizeLine := by
        rw [hd.length]
        show (sortB (ds.zip acc)).length ≤ _
        unfold sortB
        rw [List.length_map, List.length_mergeSort, List.length_zip]
        omega
      refine ⟨.ref _, upd H' (a0) (.lst ys), J'.call (ch := [kS, a0]) (g' := s'.gens) (d' := s'.drawn) (t' := tk3) ⟨fun b o e n _ hx => ?_, fun b o e n _ hx => ?_, fun b o e n hx => ?_, fun b o e hx => ?_, fun b xs e => ?_, fun b o u e => ?_, fun b ps e => ?_⟩ ?_ J'.bare ?_, rfl, fin H' m' _ ys x' r' nH2 hd⟩
      · rw [List.mem_cons, List.mem_singleton, not_or] at hx
        exact kk b o hx.1 hx.2 e
      · rw [List.mem_cons, List.mem_singleton, not_or] at hx
        exact ⟨o.slots, kk b o hx.1 hx.2 e⟩
      · rw [List.mem_cons, List.mem_singleton, not_or] at hx
        rw [upd_ne hx.2]; exact n
      · rw [List.mem_cons, List.mem_singleton, not_or] at hx
        exact ⟨o, kk b o hx.1 hx.2 e⟩
      · rw [upd_ne (ne_of_none e nH2)]; exact e
      · rw [upd_ne (ne_of_none e nH2)]; exact e
      · exact ⟨#[], by rw [upd_ne (ne_of_none e nH2), e]; simp⟩
      · intro b u e
        by_cases hb : b = a0
        · rw [hb, upd_same] at e
          cases e
          rw [hb]
          exact ⟨lz, _, c, hv, n3⟩
        · rw [upd_ne hb] at e
          have nb : b ≠ kS := fun z => by rw [z, nH1] at e; cases e
          refine (J'.hok b u e).stay (fun d v hd' q' => ?_) (fun d q' => by rw [upd_ne (ne_of_none q' nH2)]; exact q') fun d xs q' => by rw [upd_ne (ne_of_none q' nH2)]; exact q'
          rcases hd' with z | z
          · rw [z] at q' ⊢; exact kk b v nb hb q'
          · exact kk d v (ne_of_none z nH1) (ne_of_none z nH2) q'
      · intro b hb
        rw [List.mem_cons, List.mem_singleton] at hb
        rcases hb with rfl | rfl
        · exact ⟨nX _ hkS, nL _ hkS, nC _ hkS, nP _ hkS⟩
        · exact ⟨nX _ hA, nL _ hA, nC _ hA, nP _ hA⟩

theorem sort_run {v : Value} (hK : X.K = g.K) (hu : X.A.units + 100 < cLine) (hh : X.A.handled = none) (hf : KCall X g f pins0 live F) (hp : pins0 ⊆ pins) (hl : ds.length ≤ sizeLine) (sr : Src X g pins s σ H m h v ds) (lv : Live live H m) (ek : keysL F ds h = .ok ks h1) (so : SortsOk ks)
    (kw : List (Str × Value)) (ha1 : argsOk "sorted" ⟨[v], kw⟩) (ha2 : ∀ x, argsOk "list.sort" ⟨[.ref x], kw⟩) (ht : ∀ x, Builtin.«list.sort» ⟨[.ref x], kw⟩ = ksk_tree x f false)
    (fin : ∀ H' m' p ys, Ext H m H' m' → Rel g H' m' h1 → H' p = none → DVs g.K H' m' ys (sortB (ds.zip ks)) → Q (.ref p) (upd H' p (.lst ys))) :
    wpAny (model X.prog X.w) X.A (call (.builtin "sorted") [v] kw) (EP X pins σ Q) E s := by
  refine PySem.W.dlk_sorted (fun h' tk vs => ∃ H' xs, Inv X pins σ H' { s with heap := h', toks := tk } ∧ Ext H m H' m ∧ Rel g H' m h ∧ Vals xs vs ∧ DVs g.K H' m xs ds) (fun h' tk vs ⟨_, _, _, _, _, rv, q⟩ => by rw [← rv.length, q.length]; exact hl)
    (fun E' Q' hq => sr X.A.in1 E' Q' hh fun h' tk H' xs vs a b c d e => hq h' tk vs ⟨H', xs, a, b, c, d, e⟩) ha1 ha2 ?_
  rintro E' h' tk vs ⟨H', xs, I, x, r, rv, q⟩
  have hZ : vs.length ≤ sizeLine := by rw [← rv.length, q.length]; exact hl
  have hsz : (h'.push (seqObj "list" vs.toArray 0)).objs.size = h'.objs.size + 1 := size_push' ..
  rw [ht]
  refine PySem.W.dlk_tree (s := { s with heap := h'.push (seqObj "list" vs.toArray 0), toks := tk }) (Heap.get?_push_size _ rfl) hZ fun q' e1 h'' n1 n2 kp k1 k2 => ?_
  have n3 : h'.objs.size ≤ q' := Nat.le_trans (by rw [hsz]; exact Nat.le_succ _) n2
  exact sort_core (s := { s with heap := h', toks := tk }) hK hu hf hp I rv r (lv.ext x) q ek so hZ (Nat.le_refl _) n1 n3 (fun b o e => kp b o (Nat.ne_of_lt (Heap.lt_size e)) (Heap.get?_push_of_some _ e)) k1 k2 fun H2 m2 p ys x2 r2 hp2 hy => fin H2 m2 p ys (x.trans x2) r2 hp2 hy
/-- sorted(v) -/
theorem sort_plain {v : Value} (hK : X.K = g.K) (hu : X.A.units + 100 < cLine) (hh : X.A.handled = none) (hl : ds.length ≤ sizeLine) (sr : Src X g pins s σ H m h v ds) (so : SortsOk ds) (ha1 : argsOk "sorted" ⟨[v], []⟩)
    (fin : ∀ H' p ys, Ext H m H' m → Rel g H' m h → H' p = none → DVs g.K H' m ys (sortB (ds.zip ds)) → Q (.ref p) (upd H' p (.lst ys))) :
    wpAny (model X.prog X.w) X.A (call (.builtin "sorted") [v]) (EP X pins σ Q) E s := by
  refine PySem.W.dlk_sorted (kw := []) (fun h' tk vs => ∃ H' xs, Inv X pins σ H' { s with heap := h', toks := tk } ∧ Ext H m H' m ∧ Rel g H' m h ∧ Vals xs vs ∧ DVs g.K H' m xs ds) (fun h' tk vs ⟨_, _, _, _, _, rv, q⟩ => by rw [← rv.length, q.length]; exact hl)
    (fun E' Q' hq => sr X.A.in1 E' Q' hh fun h' tk H' xs vs a b c d e => hq h' tk vs ⟨H', xs, a, b, c, d, e⟩) ha1 (fun _ => args_list_sort _) ?_
  rintro E' h' tk vs ⟨H', xs, I, x, r, rv, q⟩
  have hZ : vs.length ≤ sizeLine := by rw [← rv.length, q.length]; exact hl
  have hlen : vs.length = ds.length := by rw [← rv.length, q.length]
  have ho : (h'.push (seqObj "list" vs.toArray 0)).get? h'.objs.size = some (seqObj "list" vs.toArray 0) := Heap.get?_push_size _ rfl
  have hsz : (h'.push (seqObj "list" vs.toArray 0)).objs.size = h'.objs.size + 1 := size_push' ..
  have nH : H' h'.objs.size = none := I.hok.fresh (Nat.le_refl _)
  have hsh : ∀ b o, h'.get? b = some o → (PySem.W.sortingHeap (h'.push (seqObj "list" vs.toArray 0)) h'.objs.size vs).get? b = some o := fun b o e => PySem.W.sortingHeap_old (Nat.ne_of_lt (Heap.lt_size e)) (Heap.get?_push_of_some _ e)
  have Is : Inv X pins σ H' { s with heap := PySem.W.sortingHeap (h'.push (seqObj "list" vs.toArray 0)) h'.objs.size vs, toks := tk } := Inv.kept (s := { s with heap := h', toks := tk }) I hsh
  have kr : EachIs (fun v k => ∃ as, Reads (PySem.W.sortingHeap (h'.push (seqObj "list" vs.toArray 0)) h'.objs.size vs) v k as) vs (ds.map D.py) := each_of (by rw [List.length_map]; exact hlen) fun i v k e1 e2 => by
    rw [List.getElem?_map] at e2
    cases qk : ds[i]? with
    | none => rw [qk] at e2; cases e2
    | some k' =>
      rw [qk] at e2
      cases e2
      obtain ⟨x, hx, qx⟩ := q.get qk
      obtain ⟨u, hu', ru⟩ := rv.get hx
      rw [e1] at hu'
      cases hu'
      exact DV.reads Is (by rw [hK]; exact qx) (pures_at so.pure (List.mem_of_getElem? qk)) ru
  have su := so.at (prog := X.prog) (w := X.w) (A := X.A.in1.in1) (s := { s with heap := PySem.W.sortingHeap (h'.push (seqObj "list" vs.toArray 0)) h'.objs.size vs, toks := tk }) kr (by have h2 : X.A.in1.in1.units = X.A.units + 2 := rfl; omega)
  refine PySem.W.list_sort_vals (s := { s with heap := h'.push (seqObj "list" vs.toArray 0), toks := tk }) ho su.1 hZ ⟨rfl, ?_⟩
  have e2 : (ds.zip ds).map (fun p => p.2.py) = ds.map D.py := by
    have : (ds.zip ds).map (·.2) = ds := List.map_snd_zip (Nat.le_refl _)
    have z : (ds.zip ds).map (fun p => p.2.py) = ((ds.zip ds).map (·.2)).map D.py := by rw [List.map_map]; rfl
    rw [z, this]
  have hR : EachIs (fun v p => ∃ x, RelV x v ∧ DV g.K H' m x (p : D × D).1) vs (ds.zip ds) := each_of (by rw [List.length_zip]; omega) fun i v p e1 e2 => by
    rw [List.getElem?_zip_eq_some] at e2
    obtain ⟨y, hy, ry⟩ := vals_get' rv e1
    obtain ⟨d, hd, qd⟩ := q.get' hy
    rw [e2.1] at hd
    cases hd
    exact ⟨y, ry, qd⟩
  have kk2 : EachIs (fun v p => (PySem.W.dataKind (PySem.W.sortingHeap (h'.push (seqObj "list" vs.toArray 0)) h'.objs.size vs) (ds.map D.py)).keyOf v = some (PySem.W.keyToks (p : D × D).2.py)) vs (ds.zip ds) := PySem.W.each_of_map (fun p : D × D => p.2.py) (by rw [e2]; exact su.2)
  have eo : EachIs (fun v p => ∃ x, RelV x v ∧ DV g.K H' m x (p : D × D).1) (PySem.W.sortVals (PySem.W.dataKind (PySem.W.sortingHeap (h'.push (seqObj "list" vs.toArray 0)) h'.objs.size vs) (ds.map D.py)) false vs vs) ((ds.zip ds).mergeSort (PySem.W.dataLe false fun p => p.2.py)) :=
    PySem.W.sortVals_each (κ := PySem.W.dataKind (PySem.W.sortingHeap (h'.push (seqObj "list" vs.toArray 0)) h'.objs.size vs) (ds.map D.py)) (fun p : D × D => PySem.W.keyToks p.2.py) hR kk2
  obtain ⟨ys, hv, hd⟩ := each_dvs eo
  have lz : ys.length ≤ sizeLine := by
    rw [hd.length]
    show (sortB (ds.zip ds)).length ≤ _
    unfold sortB
    rw [List.length_map, List.length_mergeSort, List.length_zip]
    omega
  obtain ⟨c, hc⟩ := sortedHeap_at (out := (PySem.W.sortVals (PySem.W.dataKind (PySem.W.sortingHeap (h'.push (seqObj "list" vs.toArray 0)) h'.objs.size vs) (ds.map D.py)) false vs vs).toArray) ho
  refine ⟨.ref h'.objs.size, upd H' h'.objs.size (.lst ys), Inv.laid (s := { s with heap := h', toks := tk }) I (fun b o e => ?_) (Nat.le_refl _) ⟨lz, _, c, hv, hc⟩, rfl, fin H' _ ys x r nH hd⟩
  rw [sortedHeap_old (Nat.ne_of_lt (Heap.lt_size e)) (by rw [hsz]; exact Nat.lt_succ_of_lt (Heap.lt_size e))]
  exact Heap.get?_push_of_some _ e
theorem src_sq (hK : X.K = g.K) (I : Inv X pins σ H s) (hs : SqL X.K H a xs ∨ SqT X.K H a xs) (r : Rel g H m h) (q : DVs g.K H m xs ds) : Src X g pins s σ H m h (.ref a) ds := fun A' E' Q' hh hq => by
  have fin : ∀ (its : List Value), Vals xs its → ∀ h' : Heap, (∀ b o, s.heap.get? b = some o → h'.get? b = some o) → Q' its { s with heap := h' } := fun its rv h' k => hq h' s.toks H xs its (I.kept k) .refl r rv q
  rcases hs with hs | hs
  · obtain ⟨its, rv, hl, hz⟩ := I.list hs
    obtain ⟨o, ho, hc, n, hd⟩ := hl.isList
    refine PySem.wpAny_collect_seq a (.inl rfl) ho hc hd (fun h' k => ?_) (by rw [List.size_toArray, ← rv.length]; exact hz)
    exact fin its rv h' k
  · obtain ⟨its, rv, ⟨o, ho, hc, n, hd⟩, hz⟩ := I.tuple hs
    refine PySem.wpAny_collect_seq a (.inr rfl) ho hc hd (fun h' k => ?_) (by rw [List.size_toArray, ← rv.length]; exact hz)
    exact fin its rv h' k
end
end DL

set_option Elab.async false
set_option linter.all false
set_option maxRecDepth 100000
namespace DL
open PySem PySem.Spec PyProof.Rows L2
mutual
/-- equal as keys -/
def D.keq : D → D → Bool
  | .int i, .int j => decide (i = j)
  | .str x, .str y => decide (x = y)
  | .tup xs, .tup ys => D.keqs xs ys
  | _, _ => false
def D.keqs : List D → List D → Bool
  | [], [] => true
  | x :: xs, y :: ys => D.keq x y && D.keqs xs ys
  | _, _ => false
end
def dget (kvs : List (D × D)) (k : D) : Option D := (kvs.find? fun p => D.keq p.1 k).map (·.2)
def dput (kvs : List (D × D)) (k v : D) : List (D × D) :=
  if (kvs.any fun p => D.keq p.1 k) = true then kvs.map (fun p => if D.keq p.1 k = true then (p.1, v) else p) else kvs ++ [(k, v)]
def ddel (kvs : List (D × D)) (k : D) : List (D × D) := kvs.filter fun p => !D.keq p.1 k
/-- a key that a dict of ints and texts takes -/
def keyS : D → Option Key
  | .int i => some (.inl i)
  | .str x => some (.inr x)
  | _ => none
theorem keyS_of {d : D} {k : Key} (e : keyS d = some k) : d = kD k := by
  cases d <;> first | (cases e; rfl) | cases e
theorem keyS_kD (k : Key) : keyS (kD k) = some k := by cases k <;> rfl
theorem keq_kD (a b : Key) : D.keq (kD a) (kD b) = decide (a = b) := by
  cases a with
  | inl i => cases b with
    | inl j => show decide (i = j) = _; exact decide_eq_decide.mpr ⟨fun e => by rw [e], fun e => Sum.inl.inj e⟩
    | inr y => exact (decide_eq_false (fun e => nomatch e)).symm
  | inr x => cases b with
    | inl j => exact (decide_eq_false (fun e => nomatch e)).symm
    | inr y => show decide (x = y) = _; exact decide_eq_decide.mpr ⟨fun e => by rw [e], fun e => Sum.inr.inj e⟩
section
variable {K : PySem.W.Frag} {H : Hp} {m : List Addr}
inductive KR (K : PySem.W.Frag) (H : Hp) (m : List Addr) : List (Key × V) → List (D × D) → Prop
  | nil : KR K H m [] []
  | cons {k : Key} {v : V} {d : D} {ks : List (Key × V)} {kvs : List (D × D)} : DV K H m v d → KR K H m ks kvs → KR K H m ((k, v) :: ks) ((kD k, d) :: kvs)
theorem KR.of : ∀ {ks : List (Key × V)} {kvs : List (D × D)}, kvs.map (·.1) = ks.map (fun p => kD p.1) → DVs K H m (ks.map (·.2)) (kvs.map (·.2)) → KR K H m ks kvs
  | [], [], _, _ => .nil
  | [], _ :: _, e, _ => by cases e
  | _ :: _, [], e, _ => by cases e
  | (k, v) :: ks, (a, d) :: kvs, e, q => by
    obtain ⟨e1, e2⟩ := List.cons.inj e
    cases q with
    | cons q1 q2 =>
      have e1' : a = kD k := e1
      subst e1'
      exact .cons q1 (KR.of e2 q2)
theorem KR.to : ∀ {ks : List (Key × V)} {kvs : List (D × D)}, KR K H m ks kvs → kvs.map (·.1) = ks.map (fun p => kD p.1) ∧ DVs K H m (ks.map (·.2)) (kvs.map (·.2))
  | _, _, .nil => ⟨rfl, .nil⟩
  | _, _, .cons r t => ⟨congrArg (_ :: ·) t.to.1, .cons r t.to.2⟩
theorem KR.length : ∀ {ks : List (Key × V)} {kvs : List (D × D)}, KR K H m ks kvs → ks.length = kvs.length
  | _, _, .nil => rfl
  | _, _, .cons _ t => congrArg (· + 1) t.length
theorem KR.get (k : Key) : ∀ {ks : List (Key × V)} {kvs : List (D × D)}, KR K H m ks kvs → (∃ v d, valV ks k = some v ∧ dget kvs (kD k) = some d ∧ DV K H m v d) ∨ (valV ks k = none ∧ dget kvs (kD k) = none)
  | _, _, .nil => .inr ⟨rfl, rfl⟩
  | _, _, @KR.cons _ _ _ j v d ks kvs r t => by
    by_cases e : j = k
    · subst e
      refine .inl ⟨v, d, valV_pos rfl, ?_, r⟩
      unfold dget
      rw [List.find?_cons]
      simp only [keq_kD, decide_true]
      rfl
    · have e1 : valV ((j, v) :: ks) k = valV ks k := valV_neg e
      have e2 : dget ((kD j, d) :: kvs) (kD k) = dget kvs (kD k) := by
        unfold dget
        rw [List.find?_cons]
        simp only [keq_kD, e, decide_false]
      rw [e1, e2]
      exact t.get k
theorem KR.any (k : Key) : ∀ {ks : List (Key × V)} {kvs : List (D × D)}, KR K H m ks kvs → (kvs.any fun p => D.keq p.1 (kD k)) = ks.any fun p => decide (p.1 = k)
  | _, _, .nil => rfl
  | _, _, @KR.cons _ _ _ j v d ks kvs r t => by
    rw [List.any_cons, List.any_cons, t.any k, keq_kD]
theorem KR.mapPut {v : V} {d : D} (k : Key) (q : DV K H m v d) : ∀ {ks : List (Key × V)} {kvs : List (D × D)}, KR K H m ks kvs → KR K H m (ks.map fun p => if p.1 = k then (p.1, v) else p) (kvs.map fun p => if D.keq p.1 (kD k) = true then (p.1, d) else p)
  | _, _, .nil => .nil
  | _, _, @KR.cons _ _ _ j v' d' ks kvs r t => by
    rw [List.map_cons, List.map_cons]
    by_cases e : j = k
    · rw [if_pos e, if_pos (by rw [keq_kD]; exact decide_eq_true e)]
      exact .cons q (t.mapPut k q)
    · rw [if_neg e, if_neg (by rw [keq_kD]; simpa using e)]
      exact .cons r (t.mapPut k q)
theorem KR.append : ∀ {ks ks' : List (Key × V)} {kvs kvs' : List (D × D)}, KR K H m ks kvs → KR K H m ks' kvs' → KR K H m (ks ++ ks') (kvs ++ kvs')
  | _, _, _, _, .nil, s => s
  | _, _, _, _, .cons r t, s => .cons r (t.append s)
theorem KR.put {v : V} {d : D} (k : Key) (q : DV K H m v d) {ks : List (Key × V)} {kvs : List (D × D)} (r : KR K H m ks kvs) : KR K H m (putK ks k v) (dput kvs (kD k) d) := by
  unfold putK dput
  rw [r.any k]
  split
  · exact r.mapPut k q
  · exact r.append (.cons q .nil)
theorem KR.del (k : Key) : ∀ {ks : List (Key × V)} {kvs : List (D × D)}, KR K H m ks kvs → KR K H m (dropK ks k) (ddel kvs (kD k))
  | _, _, .nil => .nil
  | _, _, @KR.cons _ _ _ j v' d' ks kvs r t => by
    have ih := t.del k
    unfold dropK ddel at ih ⊢
    rw [List.filter_cons, List.filter_cons]
    by_cases e : j = k
    · rw [if_neg (by simpa using e), if_neg (by rw [keq_kD]; simpa using e)]
      exact ih
    · rw [if_pos (by simpa using e), if_pos (by rw [keq_kD]; simpa using e)]
      exact .cons r ih
theorem KR.stay {H' : Hp} {m' : List Addr} (st : Stay K H m H' m') : ∀ {ks : List (Key × V)} {kvs : List (D × D)}, KR K H m ks kvs → KR K H' m' ks kvs
  | _, _, .nil => .nil
  | _, _, .cons r t => .cons (r.stay st) (t.stay st)
end
theorem Rel.dct {g : Gd} {H : Hp} {m : List Addr} {h : Hd} {n : Nat} {a : Addr} {kvs : List (D × D)} (r : Rel g H m h) (e : m[n]? = some a) (e2 : h[n]? = some (.dct kvs)) : ∃ ks, H a = some (.dK ks) ∧ KR g.K H m ks kvs := by
  obtain ⟨ks, q1, q2, q3⟩ := r.obj n a _ e e2
  exact ⟨ks, q1, .of q2 q3⟩
theorem DV.key {K : PySem.W.Frag} {H : Hp} {m : List Addr} {v : V} {d : D} {k : Key} (q : DV K H m v d) (e : keyS d = some k) : v = kV k := by
  cases q <;> first | (cases e; rfl) | cases e

def dctAt (h : Hd) (n : Nat) : Option (List (D × D)) := match h[n]? with | some (.dct kvs) => some kvs | _ => none
def semIx2 (a i : D) (h : Hd) : So := match a with
  | .ref n => match h[n]? with
    | some (.dct kvs) => match keyS i with
      | some _ => (dget kvs i).map fun d => (d, h)
      | none => none
    | _ => semIx a i h
  | _ => semIx a i h
def semIn2 (neg : Bool) (a b : D) (h : Hd) : So := match b with
  | .ref n => match h[n]? with
    | some (.dct kvs) => match keyS a with
      | some _ => some (.bl (if neg then !(dget kvs a).isSome else (dget kvs a).isSome), h)
      | none => none
    | _ => semIn neg a b h
  | _ => semIn neg a b h
def semLt2 (a b : D) (h : Hd) : So := match a, b with
  | .int i, .int j => some (.bl (decide (i < j)), h)
  | .str x, .str y => some (.bl (decide (x.cps.toList < y.cps.toList)), h)
  | .tup xs, .tup ys =>
    if PySem.W.rankP (D.tup xs).py = true ∧ PySem.W.rankP (D.tup ys).py = true ∧ PySem.W.rankQ (D.tup xs).py (D.tup ys).py = true ∧ D.pures xs = true ∧ D.pures ys = true then some (.bl (PySem.W.rankLt (D.tup xs).py (D.tup ys).py), h)
    else if PySem.W.alike (D.tup xs).py (D.tup ys).py = true ∧ D.pures xs = true ∧ D.pures ys = true ∧ min (D.tup xs).depth (D.tup ys).depth ≤ 40 then some (.bl (PySem.W.dataLt (D.tup xs).py (D.tup ys).py), h) else none
  | _, _ => none
section
variable {X : Cx} {g : Gd}
theorem ix_dct (hu : X.A.units + 1 < cLine) : IxR X (fun x y H Q => ∃ a v, x = .ref a ∧ DGet H a y (some v) ∧ Q v H) := by
  intro value slice pins s σ H x y v u Q I rx ry ⟨a, z, ex, g, q⟩ hs
  subst ex
  obtain rfl : v = Value.ref a := rx
  have hT := dict_typeIs I g
  have hl := PySem.F.slot_dict_getitem.lookup
  unfold subscriptTail
  refine wpAny_bind ?_
  rw [getitemInPython_of_ne hT.not_modules]
  refine wpAny_bind (wpAny_specialOf hT hl ?_)
  have fin : wpAny (model X.prog X.w) X.A (subscripted slice false (.ref a) u) (fun r s₃ => wpAny (model X.prog X.w) X.A (letTemporaryGo value (.ref a) r >>= fun _ => pure r) (EP X pins σ Q) X.xe s₃) X.xe s := by
    rw [hs]
    exact wpAny_operating (d_getItem hu I g ry fun w' s3 I3 rw' => wpAny_bind (wpAny_letTemporaryGo (wpAny_pure ⟨z, H, I3, rw', q⟩)))
  first
    | exact wpAny_pure (wpAny_bind fin)
    | exact wpAny_bind (wpAny_pure (wpAny_bind fin))
    | exact wpAny_bind fin
theorem dgetOf {H : Hp} {a : Addr} {ks : List (Key × V)} {k : Key} {o : Option V} (e : H a = some (.dK ks)) (h : valV ks k = o) : DGet H a (kV k) o := h ▸ DGet.k e
theorem i_ix2 (hK : X.K = g.K) (hu : X.A.units + 1 < cLine) : IxR X (rD g semIx2) := by
  intro value slice pins s σ H x y v u Q I rx ry ⟨m, h, dx, dy, r, qx, qy, p⟩ hs
  have old : PO g H m Q (semIx dx dy h) → wpAny (model X.prog X.w) X.A (subscriptTail value slice v u) (EP X pins σ Q) X.xe s := fun p' => i_ix (g := g) hK value slice pins s σ H x y v u Q I rx ry ⟨m, h, dx, dy, r, qx, qy, p'⟩ hs
  cases dx with
  | ref n =>
    cases eh : h[n]? with
    | none => simp only [semIx2, eh] at p; exact old p
    | some o =>
      cases o with
      | dct kvs =>
        simp only [semIx2, eh] at p
        cases ek : keyS dy with
        | none => rw [ek] at p; exact p.elim
        | some k =>
          rw [ek] at p
          cases qx with
          | ref e1 =>
            obtain ⟨ks, h1, h2⟩ := r.dct e1 eh
            have ey := keyS_of ek
            subst ey
            have ev := qy.key (keyS_kD k)
            subst ev
            rcases h2.get k with ⟨z, d, z1, z2, z3⟩ | ⟨z1, z2⟩
            · rw [z2] at p
              exact ix_dct hu value slice pins s σ H _ _ v u Q I rx ry ⟨_, z, rfl, dgetOf h1 z1, p.here r z3⟩ hs
            · rw [z2] at p; exact p.elim
      | lst ds => simp only [semIx2, eh] at p; exact old p
      | ins c fs => simp only [semIx2, eh] at p; exact old p
  | _ => exact old p
theorem o_in2 (hK : X.K = g.K) (hu : X.A.units + 64 < cLine) : OpR X (compareOp .In) (rD g (semIn2 false)) := by
  intro pins s σ H x y v u Q I rx ry ⟨m, h, dx, dy, r, qx, qy, p⟩
  have old : PO g H m Q (semIn false dx dy h) → wpAny (model X.prog X.w) X.A (compareOp .In v u) (EP X pins σ Q) X.xe s := fun p' => o_in (g := g) hK hu pins s σ H x y v u Q I rx ry ⟨m, h, dx, dy, r, qx, qy, p'⟩
  cases dy with
  | ref n =>
    cases eh : h[n]? with
    | none => simp only [semIn2, eh] at p; exact old p
    | some o =>
      cases o with
      | dct kvs =>
        simp only [semIn2, eh] at p
        cases ek : keyS dx with
        | none => rw [ek] at p; exact p.elim
        | some k =>
          rw [ek] at p
          cases qy with
          | ref e1 =>
            obtain ⟨ks, h1, h2⟩ := r.dct e1 eh
            have ex := keyS_of ek
            subst ex
            have ev := qx.key (keyS_kD k)
            subst ev
            obtain rfl : u = Value.ref _ := ry
            refine d_in (by omega) I (dgetOf h1 rfl) rx fun s' I' => ?_
            rcases h2.get k with ⟨z, d, z1, z2, z3⟩ | ⟨z1, z2⟩
            · rw [z1]; rw [z2] at p; exact ⟨.bl true, H, I', rfl, p.here r (.bl _)⟩
            · rw [z1]; rw [z2] at p; exact ⟨.bl false, H, I', rfl, p.here r (.bl _)⟩
      | lst ds => simp only [semIn2, eh] at p; exact old p
      | ins c fs => simp only [semIn2, eh] at p; exact old p
  | _ => exact old p
theorem o_notin2 (hK : X.K = g.K) (hu : X.A.units + 64 < cLine) : OpR X (compareOp .NotIn) (rD g (semIn2 true)) := by
  intro pins s σ H x y v u Q I rx ry ⟨m, h, dx, dy, r, qx, qy, p⟩
  have old : PO g H m Q (semIn true dx dy h) → wpAny (model X.prog X.w) X.A (compareOp .NotIn v u) (EP X pins σ Q) X.xe s := fun p' => o_notin (g := g) hK hu pins s σ H x y v u Q I rx ry ⟨m, h, dx, dy, r, qx, qy, p'⟩
  cases dy with
  | ref n =>
    cases eh : h[n]? with
    | none => simp only [semIn2, eh] at p; exact old p
    | some o =>
      cases o with
      | dct kvs =>
        simp only [semIn2, eh] at p
        cases ek : keyS dx with
        | none => rw [ek] at p; exact p.elim
        | some k =>
          rw [ek] at p
          cases qy with
          | ref e1 =>
            obtain ⟨ks, h1, h2⟩ := r.dct e1 eh
            have ex := keyS_of ek
            subst ex
            have ev := qx.key (keyS_kD k)
            subst ev
            obtain rfl : u = Value.ref _ := ry
            refine d_notIn (by omega) I (dgetOf h1 rfl) rx fun s' I' => ?_
            rcases h2.get k with ⟨z, d, z1, z2, z3⟩ | ⟨z1, z2⟩
            · rw [z1]; rw [z2] at p; exact ⟨.bl false, H, I', rfl, p.here r (.bl _)⟩
            · rw [z1]; rw [z2] at p; exact ⟨.bl true, H, I', rfl, p.here r (.bl _)⟩
      | lst ds => simp only [semIn2, eh] at p; exact old p
      | ins c fs => simp only [semIn2, eh] at p; exact old p
  | _ => exact old p
theorem o_lt2 (hK : X.K = g.K) (hu : X.A.units + 64 < cLine) : OpR X (compareOp .Lt) (rD g semLt2) := by
  intro pins s σ H x y v u Q I rx ry ⟨m, h, dx, dy, r, qx, qy, p⟩
  cases dx with
  | int i => cases dy with
    | int j => cases qx; cases qy; exact op_lt pins s σ H _ _ v u Q I rx ry ⟨_, _, rfl, rfl, p.here r (.bl _)⟩
    | _ => exact p.elim
  | str i => cases dy with
    | str j => cases qx; cases qy; exact op_lt_str pins s σ H _ _ v u Q I rx ry ⟨_, _, rfl, rfl, p.here r (.bl _)⟩
    | _ => exact p.elim
  | tup xs => cases dy with
    | tup ys =>
      simp only [semLt2] at p
      split at p
      · rename_i c
        obtain ⟨c1, c2, c3, c4, c5⟩ := c
        obtain ⟨as, r1⟩ := DV.reads I (hK ▸ qx) (show (D.tup xs).pure = true from c4) rx
        obtain ⟨bs, r2⟩ := DV.reads I (hK ▸ qy) (show (D.tup ys).pure = true from c5) ry
        exact PySem.W.lt_rank r1 r2 c1 c2 c3 (by omega) ⟨.bl _, H, I, rfl, p.here r (.bl _)⟩
      · split at p
        · rename_i c
          obtain ⟨c1, c2, c3, c4⟩ := c
          obtain ⟨as, r1⟩ := DV.reads I (hK ▸ qx) (show (D.tup xs).pure = true from c2) rx
          obtain ⟨bs, r2⟩ := DV.reads I (hK ▸ qy) (show (D.tup ys).pure = true from c3) ry
          refine PySem.W.lt_data r1 r2 c1 (fun z => nomatch z) ?_ ⟨.bl _, H, I, rfl, p.here r (.bl _)⟩
          unfold D.depth at c4
          omega
        · exact p.elim
    | _ => exact p.elim
  | _ => exact p.elim
/-- o[i] = d -/
def setD2 (o i d : D) (h : Hd) : Option Hd := match o with
  | .ref n => match h[n]? with
    | some (.lst ds) => match i with
      | .int k => (ixN ds.length k).map fun j => h.set n (.lst (ds.set j d))
      | _ => none
    | some (.dct kvs) => match keyS i with
      | some _ => if kvs.length < sizeLine then some (h.set n (.dct (dput kvs i d))) else none
      | none => none
    | _ => none
  | _ => none
def rSetA (g : Gd) : TSet := fun x y z H Q => ∃ m h dx dy dz, Rel g H m h ∧ DV g.K H m x dx ∧ DV g.K H m y dy ∧ DV g.K H m z dz ∧ match setD2 dx dy dz h with
  | some h' => ∀ H', Ext H m H' m → Rel g H' m h' → Q H'
  | none => False
theorem set_any (hu : X.A.units + 1 < cLine) : PSet X (rSetA g) := by
  intro pins s σ H x y z ov iv u Q I rx ry rz ⟨m, h, dx, dy, dz, r, qx, qy, qz, p⟩
  cases dx with
  | ref n =>
    cases qx with
    | ref e1 =>
      cases eh : h[n]? with
      | none => simp only [setD2, eh] at p
      | some o =>
        have hm := List.mem_of_getElem? e1
        cases o with
        | lst ds =>
          cases dy with
          | int j =>
            cases qy with
            | int j =>
              simp only [setD2, eh] at p
              obtain ⟨xs, q1, q2⟩ := r.lst e1 eh
              cases q : ixN ds.length j with
              | none => rw [q] at p; exact p.elim
              | some jj =>
                rw [q] at p
                refine set_list pins s σ H _ _ _ ov iv u Q I rx ry rz ⟨_, xs, j, jj, rfl, rfl, q1, by rw [q2.length]; exact q, p _ (.write hm) (r.write e1 ⟨_, upd_same, ?_⟩)⟩
                exact (q2.set qz jj).stay (r.stay (.write hm))
          | _ => simp only [setD2, eh] at p
        | dct kvs =>
          simp only [setD2, eh] at p
          cases ek : keyS dy with
          | none => rw [ek] at p; exact p.elim
          | some k =>
            rw [ek] at p
            dsimp only at p
            split at p
            · rename_i h' e'
              by_cases hz : kvs.length < sizeLine
              · rw [if_pos hz] at e'
                cases e'
                obtain ⟨ks, h1, h2⟩ := r.dct e1 eh
                have ey := keyS_of ek
                subst ey
                have ev := qy.key (keyS_kD k)
                subst ev
                obtain rfl : ov = Value.ref _ := rx
                refine d_setItem hu I (DPut.k h1 (by rw [h2.length]; exact hz)) ry rz fun s' I' => ⟨_, I', p _ (.write hm) (r.write e1 ?_)⟩
                have h3 := (h2.put k qz).stay (r.stay (.write (u := .dK (putK ks k z)) hm))
                exact ⟨_, upd_same, h3.to.1, h3.to.2⟩
              · rw [if_neg hz] at e'; cases e'
            · exact p.elim
        | ins c fs => simp only [setD2, eh] at p
  | _ => exact p.elim
end
end DL

set_option Elab.async false
set_option linter.all false
set_option maxRecDepth 100000
namespace DL
open PySem PySem.Spec PyProof.Rows L2

inductive O2 where | add | sub | mul | div | mod | pow
  deriving DecidableEq
inductive C2 where | eq | ne | lt | le | gt | ge | is | isnot | isin | notin
  deriving DecidableEq
inductive B where | len | abs | int | max2 | min2 | tuple | list | sum | sorted
  deriving DecidableEq
inductive Ty where | tup | str | int | bl | lst | non
  deriving DecidableEq
inductive M where | append
  deriving DecidableEq

def O2.op : O2 → Operator | .add => .Add | .sub => .Sub | .mul => .Mult | .div => .FloorDiv | .mod => .Mod | .pow => .Pow
def C2.op : C2 → CmpOp | .eq => .Eq | .ne => .NotEq | .lt => .Lt | .le => .LtE | .gt => .Gt | .ge => .GtE | .is => .Is | .isnot => .IsNot | .isin => .In | .notin => .NotIn
def semO : O2 → D → D → Hd → So | .add => semAdd | .sub => semSub | .mul => semMul | .div => semDiv | .mod => semMod | .pow => semPow
def semC : C2 → D → D → Hd → So
  | .eq => semEq false | .ne => semEq true | .lt => semLt2 | .le => semCmpI fun i j => decide (i ≤ j) | .gt => semCmpI fun i j => decide (j < i) | .ge => semCmpI fun i j => decide (j ≤ i)
  | .is => semIs false | .isnot => semIs true | .isin => semIn2 false | .notin => semIn2 true
theorem o_op2 {X : Cx} {g : Gd} (hK : X.K = g.K) : ∀ o : O2, OpR X (binaryOp o.op) (rD g (semO o))
  | .add => o_add hK | .sub => o_sub | .mul => o_mul | .div => o_div | .mod => o_mod | .pow => o_pow
theorem o_cmp2 {X : Cx} {g : Gd} (hK : X.K = g.K) (hu : X.A.units + 64 < cLine) : ∀ o : C2, OpR X (compareOp o.op) (rD g (semC o))
  | .eq => o_eq hK hu | .ne => o_ne hK hu | .lt => o_lt2 hK hu | .le => o_le | .gt => o_gt | .ge => o_ge | .is => o_is | .isnot => o_isnot | .isin => o_in2 hK hu | .notin => o_notin2 hK hu

def B.name : B → Str | .len => "len" | .abs => "abs" | .int => "int" | .max2 => "max" | .min2 => "min" | .tuple => "tuple" | .list => "list" | .sum => "sum" | .sorted => "sorted"
def B.val : B → Value | .len => .builtin "len" | .abs => .builtin "abs" | .int => .type "int" | .max2 => .builtin "max" | .min2 => .builtin "min" | .tuple => .type "tuple" | .list => .type "list" | .sum => .builtin "sum" | .sorted => .builtin "sorted"
def lenD (d : D) (h : Hd) : So := match d with
  | .str x => if x.length ≤ sizeLine then some (.int x.length, h) else none
  | .ref n => match h[n]? with
    | some (.dct kvs) => some (.int kvs.length, h)
    | _ => (seqOf h (.ref n)).map fun ds => (.int ds.length, h)
  | d => (seqOf h d).map fun ds => (.int ds.length, h)
def absD (d : D) (h : Hd) : So := match d with | .int i => some (.int (if i < 0 then -i else i), h) | _ => none
def intD (d : D) (h : Hd) : So := match d with | .int i => some (.int i, h) | .bl k => some (.int (if k then 1 else 0), h) | _ => none
def max2D (d e : D) (h : Hd) : So := match d, e with | .int i, .int j => some (.int (if j > i then j else i), h) | _, _ => none
def min2D (d e : D) (h : Hd) : So := match d, e with | .int i, .int j => some (.int (if j < i then j else i), h) | _, _ => none
def tupleD (d : D) (h : Hd) : So := (seqOf h d).map fun ds => (.tup ds, h)
def listD (d : D) (h : Hd) : So := match d with
  | .ref n => match h[n]? with
    | some (.dct kvs) => some (.ref h.length, h ++ [.lst (kvs.map (·.1))])
    | _ => (seqOf h (.ref n)).map fun ds => (.ref h.length, h ++ [.lst ds])
  | d => (seqOf h d).map fun ds => (.ref h.length, h ++ [.lst ds])
def intsOf : List D → Option (List Int)
  | [] => some []
  | .int i :: ds => (intsOf ds).map (i :: ·)
  | _ :: _ => none
def sumD (d : D) (h : Hd) : So := match d with
  | .ref n => match h[n]? with
    | some (.lst ds) => (intsOf ds).map fun ns => (.int ns.sum, h)
    | _ => none
  | _ => none
open Classical in
noncomputable def sortedD (d : D) (h : Hd) : So := match seqOf h d with
  | some ds => if SortsOk ds ∧ ds.length ≤ sizeLine then some (.ref h.length, h ++ [.lst (sortB (ds.zip ds))]) else none
  | none => none
def on1 (f : D → Hd → So) : List D → Hd → So
  | [d], h => f d h
  | _, _ => none
def on2 (f : D → D → Hd → So) : List D → Hd → So
  | [d, e], h => f d e h
  | _, _ => none
noncomputable def semB : B → List D → Hd → So
  | .len => on1 lenD | .abs => on1 absD | .int => on1 intD | .max2 => on2 max2D | .min2 => on2 min2D | .tuple => on1 tupleD | .list => on1 listD | .sum => on1 sumD | .sorted => on1 sortedD
theorem call_or {X : Cx} {f : Value} {r r' : List V → Hp → VK → Prop} (h : CallR X f r) (w : ∀ xs H Q, r' xs H Q → r xs H Q) : CallR X f r' := fun pins s σ H xs us Q I rx q => h pins s σ H xs us Q I rx (w _ _ _ q)
theorem DVs.one {K : PySem.W.Frag} {H : Hp} {m : List Addr} {xs : List V} {d : D} (r : DVs K H m xs [d]) : ∃ x, xs = [x] ∧ DV K H m x d := by
  cases r with
  | cons a b => cases b; exact ⟨_, rfl, a⟩
theorem DVs.two {K : PySem.W.Frag} {H : Hp} {m : List Addr} {xs : List V} {d e : D} (r : DVs K H m xs [d, e]) : ∃ x y, xs = [x, y] ∧ DV K H m x d ∧ DV K H m y e := by
  cases r with
  | cons a b =>
    obtain ⟨y, rfl, q⟩ := b.one
    exact ⟨_, _, rfl, a, q⟩
section
variable {X : Cx} {g : Gd}
theorem on1_ok {f : D → Hd → So} {F : Value} {r : List V → Hp → VK → Prop} (hc : CallR X F r)
    (w : ∀ v d H m h Q, Rel g H m h → DV g.K H m v d → PO g H m Q (f d h) → r [v] H Q) : CallR X F (rC g (on1 f)) := by
  refine call_or hc fun xs H Q ⟨m, h, ds, r, qs, p⟩ => ?_
  match ds, p, qs with
  | [], p, _ => exact p.elim
  | _ :: _ :: _, p, _ => exact p.elim
  | [d], p, qs =>
    obtain ⟨v, rfl, q⟩ := qs.one
    exact w v d H m h Q r q p
theorem on2_ok {f : D → D → Hd → So} {F : Value} {r : List V → Hp → VK → Prop} (hc : CallR X F r)
    (w : ∀ v v' d d' H m h Q, Rel g H m h → DV g.K H m v d → DV g.K H m v' d' → PO g H m Q (f d d' h) → r [v, v'] H Q) : CallR X F (rC g (on2 f)) := by
  refine call_or hc fun xs H Q ⟨m, h, ds, r, qs, p⟩ => ?_
  match ds, p, qs with
  | [], p, _ => exact p.elim
  | [_], p, _ => exact p.elim
  | _ :: _ :: _ :: _, p, _ => exact p.elim
  | [d, d'], p, qs =>
    obtain ⟨v, v', rfl, q, q'⟩ := qs.two
    exact w v v' d d' H m h Q r q q' p
theorem call_or2 {f : Value} {r1 r2 : List V → Hp → VK → Prop} (h1 : CallR X f r1) (h2 : CallR X f r2) : CallR X f (fun xs H Q => r1 xs H Q ∨ r2 xs H Q) :=
  fun pins s σ H xs us Q I rx q => q.elim (h1 pins s σ H xs us Q I rx) (h2 pins s σ H xs us Q I rx)
theorem b_len (hK : X.K = g.K) : CallR X (.builtin "len") (rC g (semB .len)) := on1_ok (call_or2 call_len call_lenD) fun v d H m h Q r q p => by
  have hh : ∀ {d : D} {v : V}, DV g.K H m v d → PO g H m Q ((seqOf h d).map fun ds => (.int ds.length, h)) → ∃ x n, [v] = [x] ∧ LenV X.K x H n ∧ Q (.int n) H := fun {d v} q p => by
    cases e : seqOf h d with
    | none => rw [e] at p; exact p.elim
    | some ds =>
      rw [e] at p
      obtain ⟨a, xs, rfl, hs, hd⟩ := seqOf_sq r q e
      rcases hs with hs | hs
      · exact ⟨_, _, rfl, .inl ⟨_, hK ▸ hs, rfl⟩, p.here r (by rw [hd.length]; exact .int _)⟩
      · exact ⟨_, _, rfl, .inr ⟨_, hK ▸ hs, rfl⟩, p.here r (by rw [hd.length]; exact .int _)⟩
  cases d with
  | str x =>
    simp only [lenD] at p
    split at p
    · cases q; exact .inl ⟨_, _, rfl, ⟨by assumption, rfl⟩, p.here r (.int _)⟩
    · exact p.elim
  | ref n =>
    cases eh : h[n]? with
    | none => simp only [lenD, eh] at p; exact .inl (hh q p)
    | some o =>
      cases o with
      | dct kvs =>
        simp only [lenD, eh] at p
        cases q with
        | ref e1 =>
          obtain ⟨ks, h1, h2⟩ := r.dct e1 eh
          exact .inr ⟨_, ks, rfl, h1, p.here r (by rw [h2.length]; exact .int _)⟩
      | lst ds => simp only [lenD, eh] at p; exact .inl (hh q p)
      | ins c fs => simp only [lenD, eh] at p; exact .inl (hh q p)
  | _ => exact .inl (hh q p)
theorem b_abs : CallR X (.builtin "abs") (rC g (semB .abs)) := on1_ok call_abs fun v d H m h Q r q p => by
  cases q with
  | int i => exact ⟨_, rfl, p.here r (.int _)⟩
  | _ => exact p.elim
theorem b_int : CallR X (.type "int") (rC g (semB .int)) := on1_ok call_int1 fun v d H m h Q r q p => by
  cases q with
  | int i => exact .inl ⟨_, rfl, p.here r (.int _)⟩
  | bl b => exact .inr ⟨_, rfl, p.here r (.int _)⟩
  | _ => exact p.elim
theorem b_max2 (hc : X.calm = true) : CallR X (.builtin "max") (rC g (semB .max2)) := on2_ok (call_max2 hc) fun v v' d d' H m h Q r q q' p => by
  cases q with
  | int i => cases q' with
    | int j => exact ⟨_, _, rfl, p.here r (.int _)⟩
    | _ => exact p.elim
  | _ => exact p.elim
theorem b_min2 (hc : X.calm = true) : CallR X (.builtin "min") (rC g (semB .min2)) := on2_ok (call_min2 hc) fun v v' d d' H m h Q r q q' p => by
  cases q with
  | int i => cases q' with
    | int j => exact ⟨_, _, rfl, p.here r (.int _)⟩
    | _ => exact p.elim
  | _ => exact p.elim
theorem b_tuple (hK : X.K = g.K) : CallR X (.type "tuple") (rC g (semB .tuple)) := on1_ok call_tuple_of fun v d H m h Q r q p => by
  unfold tupleD at p
  cases e : seqOf h d with
  | none => rw [e] at p; exact p.elim
  | some ds =>
    rw [e] at p
    obtain ⟨a, xs, rfl, hs, hd⟩ := seqOf_sq r q e
    rcases hs with hs | hs
    · exact ⟨_, xs, rfl, .inl ⟨hK ▸ hs, fun l hl => p.newTup r hl hd⟩⟩
    · exact ⟨_, xs, rfl, .inr ⟨hK ▸ hs, p.here r (.tup hs hd)⟩⟩
theorem KR.keys {K : PySem.W.Frag} {H : Hp} {m : List Addr} : ∀ {ks : List (Key × V)} {kvs : List (D × D)}, KR K H m ks kvs → DVs K H m (ks.map fun p => kV p.1) (kvs.map (·.1))
  | _, _, .nil => .nil
  | _, _, @KR.cons _ _ _ k _ _ _ _ _ t => .cons (by cases k <;> first | exact .int _ | exact .str _) t.keys
theorem b_list (hK : X.K = g.K) (hc : X.calm = true) : CallR X (.type "list") (rC g (semB .list)) := on1_ok (call_or2 call_list_of (call_listD hc)) fun v d H m h Q r q p => by
  have hh : ∀ {d : D} {v : V}, DV g.K H m v d → PO g H m Q ((seqOf h d).map fun ds => (.ref h.length, h ++ [.lst ds])) → ∃ p ys, [v] = [.ref p] ∧ (SqL X.K H p ys ∨ SqT X.K H p ys) ∧ ∀ l, H l = none → Q (.ref l) (upd H l (.lst ys)) := fun {d v} q p => by
    cases e : seqOf h d with
    | none => rw [e] at p; exact p.elim
    | some ds =>
      rw [e] at p
      obtain ⟨a, xs, rfl, hs, hd⟩ := seqOf_sq r q e
      exact ⟨_, xs, rfl, hK ▸ hs, fun l hl => p.newLst r hl hd⟩
  cases d with
  | ref n =>
    cases eh : h[n]? with
    | none => simp only [listD, eh] at p; exact .inl (hh q p)
    | some o =>
      cases o with
      | dct kvs =>
        simp only [listD, eh] at p
        cases q with
        | ref e1 =>
          obtain ⟨ks, h1, h2⟩ := r.dct e1 eh
          exact .inr ⟨_, ks, rfl, .of h1, fun l hl => p.newLst r hl h2.keys⟩
      | lst ds => simp only [listD, eh] at p; exact .inl (hh q p)
      | ins c fs => simp only [listD, eh] at p; exact .inl (hh q p)
  | _ => exact .inl (hh q p)
theorem ints_dvs {K : PySem.W.Frag} {H : Hp} {m : List Addr} : ∀ {xs : List V} {ds : List D} {ns : List Int}, DVs K H m xs ds → intsOf ds = some ns → xs = ns.map V.int
  | _, [], _, .nil, e => by cases e; rfl
  | x :: xs, d :: ds, ns, .cons r t, e => by
    cases r with
    | int i =>
      have e' : (intsOf ds).map (i :: ·) = some ns := e
      cases q : intsOf ds with
      | none => rw [q] at e'; cases e'
      | some ms => rw [q] at e'; cases e'; rw [ints_dvs t q]; rfl
    | _ => cases e
theorem b_sum (hc : X.calm = true) : CallR X (.builtin "sum") (rC g (semB .sum)) := on1_ok (cr_sum hc) fun v d H m h Q r q p => by
  cases d with
  | ref n =>
    cases eh : h[n]? with
    | none => simp only [sumD, eh] at p; exact p.elim
    | some o =>
      cases o with
      | lst ds =>
        simp only [sumD, eh] at p
        cases e : intsOf ds with
        | none => rw [e] at p; exact p.elim
        | some ns =>
          rw [e] at p
          cases q with
          | ref e1 =>
            obtain ⟨xs, x1, x2⟩ := r.lst e1 eh
            have := ints_dvs x2 e
            subst this
            exact ⟨_, ns, rfl, .of x1, p.here r (.int _)⟩
      | dct kvs => simp only [sumD, eh] at p; exact p.elim
      | ins c fs => simp only [sumD, eh] at p; exact p.elim
  | _ => exact p.elim
theorem b_sorted (hK : X.K = g.K) (hu : X.A.units + 100 < cLine) (hh : X.A.handled = none) : CallR X (.builtin "sorted") (rC g (semB .sorted)) := by
  intro pins s σ H xs us Q I rx ⟨m, h, ds, r, qs, p⟩
  match ds, p, qs with
  | [], p, _ => exact p.elim
  | _ :: _ :: _, p, _ => exact p.elim
  | [d], p, qs =>
    obtain ⟨v, rfl, q⟩ := qs.one
    have p' : PO g H m Q (sortedD d h) := p
    unfold sortedD at p'
    cases e : seqOf h d with
    | none => rw [e] at p'; exact p'.elim
    | some ds =>
      rw [e] at p'
      dsimp only at p'
      split at p'
      · rename_i so
        obtain ⟨a, xs, rfl, hs, hd⟩ := seqOf_sq r q e
        have e2 := Vals.ref1 rx
        subst e2
        refine sort_plain hK hu hh so.2 (src_sq hK I (hK ▸ hs) r hd) so.1 (args_sorted1 _) fun H' l ys x' r' hp hy => ?_
        exact p' (.ref l) _ _ (x'.trans (.new hp (r'.notin hp))) (r'.new hp (newLst r' hp hy)) (.ref (by rw [← r'.len]; simp))
      · exact p'.elim
theorem b_all (hK : X.K = g.K) (hc : X.calm = true) (hu : X.A.units + 100 < cLine) (hh : X.A.handled = none) : ∀ b : B, CallR X b.val (rC g (semB b))
  | .len => b_len hK | .abs => b_abs | .int => b_int | .max2 => b_max2 hc | .min2 => b_min2 hc | .tuple => b_tuple hK | .list => b_list hK hc | .sum => b_sum hc | .sorted => b_sorted hK hu hh
end
theorem B.boot : ∀ b : B, bootBuiltins b.name = some b.val
  | .len => by decide +kernel | .abs => by decide +kernel | .int => by decide +kernel | .max2 => by decide +kernel | .min2 => by decide +kernel | .tuple => by decide +kernel | .list => by decide +kernel | .sum => by decide +kernel | .sorted => by decide +kernel
theorem B.noname : ∀ b : B, b.name ≠ ("__name__" : Str) := by intro b; cases b <;> decide +kernel
theorem B.nodebug : ∀ b : B, (b.name == ("__debug__" : Str)) = false := by intro b; cases b <;> decide +kernel

def Ty.nm : Ty → String | .tup => "tuple" | .str => "str" | .int => "int" | .bl => "bool" | .lst => "list" | .non => "NoneType"
def Ty.name (t : Ty) : Str := Str.ofString t.nm
def tyD (h : Hd) : D → Option Ty
  | .non => some .non | .bl _ => some .bl | .int _ => some .int | .str _ => some .str | .tup _ => some .tup | .rol _ => some .lst
  | .ref n => match h[n]? with | some (.lst _) => some .lst | _ => none
  | .glo _ => none
def isT (t u : Ty) : Bool := decide (t = u) || (decide (t = .bl) && decide (u = .int))
theorem kit_isT : ∀ t u : Ty, u ≠ .non → kitB t.nm u.nm = some (isT t u) := by
  intro t u hu
  cases u <;> first | exact absurd rfl hu | (cases t <;> decide +kernel)
theorem tyD_x {g : Gd} {H : Hp} {m : List Addr} {h : Hd} {v : V} {d : D} {t : Ty} (r : Rel g H m h) (q : DV g.K H m v d) (e : tyD h d = some t) : TyX g.K H v (.type t.nm) := by
  cases q with
  | non => cases e; exact .base .non
  | bl b => cases e; exact .base (.bl _)
  | int i => cases e; exact .base (.int _)
  | str x => cases e; exact .base (.str _)
  | tup a b =>
    cases e
    rcases a with (a | ⟨o, a⟩) | ⟨o, its, n, k, c, _⟩
    · exact .base (.tup a)
    · exact .fTuple a
    · exact .kTuple k c
  | rol a b =>
    cases e
    rcases a with ⟨o, a⟩ | ⟨o, its, n, k, c, _⟩
    · exact .base (.frz a)
    · exact .kList k c
  | ref a =>
    simp only [tyD] at e
    split at e
    · cases e
      obtain ⟨xs, x1, _⟩ := r.lst a (by assumption)
      exact .base (.lst x1)
    · cases e
  | glo => cases e

def M.name : M → Str | .append => "append"
def appendD (o d : D) (h : Hd) : So := match o with
  | .ref n => match h[n]? with
    | some (.lst ds) => if ds.length < sizeLine then some (.non, h.set n (.lst (ds ++ [d]))) else none
    | _ => none
  | _ => none
def semM : M → D → List D → Hd → So
  | .append, o, [d], h => appendD o d h
  | _, _, _, _ => none
end DL

set_option Elab.async false
set_option linter.all false
set_option maxRecDepth 100000
namespace DL
open PySem PySem.Spec PyProof.Rows L2

inductive ITg where
  | name (i : Nat) | tup (is : List Nat)
mutual
inductive IE where
  | var (i : Nat) | int (i : Int) | str (x : Str) | bl (b : Bool) | non
  | op2 (o : O2) (a b : IE) | cmp (o : C2) (a b : IE) | neg (a : IE) | nt (a : IE)
  | and (es : IEs) | or (es : IEs) | ife (c a b : IE)
  | tup (es : IEs) | lst (es : IEs) | ix (a i : IE) | sl (a : IE) (lo hi : IO)
  | bc (b : B) (es : IEs) | isi (a : IE) (t : Ty) | call (f : Nat) (es : IEs)
  | mth (m : M) (o : IE) (es : IEs)
  | comp (t : ITg) (vs : List Nat) (it : IIt) (c : IO) (e : IE)
  | sortk (v : Bool) (e : IE) (f : Nat) | sortl (e b : IE) | gint (x : Str) (i : Int) | dnew
inductive IIt where
  | seq (e : IE) | rng1 (e : IE) | rng2 (a b : IE) | enum (e : IE) | zip (a b : IE)
inductive IEs where
  | nil | cons (e : IE) (es : IEs)
inductive IO where
  | no | yes (e : IE)
end

abbrev Fn := List D → Hd → Res D
abbrev Tab := Nat → Fn
abbrev Fo := Sd → Hd → Res (Option Int)
def truR (r : Res D) : Res Bool := r.bind fun d h => match truD d h with | some k => .ok k h | none => .bad
def bolR (r : Res D) : Res Bool := r.bind fun d h => match d with | .bl k => .ok k h | _ => .bad
def evL : List (Fe × Ft) → Fes
  | [] => fun _ h => .ok [] h
  | p :: ps => fun τ h => (p.1 τ h).bind fun d h1 => (evL ps τ h1).bind fun ds h2 => .ok (d :: ds) h2
def andV : List (Fe × Ft) → Fe
  | [] => fun _ _ => .bad
  | [p] => p.1
  | p :: q :: r => fun τ h => (p.1 τ h).bind fun d h1 => match d with | .bl true => andV (q :: r) τ h1 | .bl false => .ok (.bl false) h1 | _ => .bad
def orV : List (Fe × Ft) → Fe
  | [] => fun _ _ => .bad
  | [p] => p.1
  | p :: q :: r => fun τ h => (p.1 τ h).bind fun d h1 => match d with | .bl false => orV (q :: r) τ h1 | .bl true => .ok (.bl true) h1 | _ => .bad
def andT : List (Fe × Ft) → Ft
  | [] => fun _ _ => .bad
  | [p] => p.2
  | p :: q :: r => fun τ h => (p.2 τ h).bind fun c h1 => if c = true then andT (q :: r) τ h1 else .ok false h1
def orT : List (Fe × Ft) → Ft
  | [] => fun _ _ => .bad
  | [p] => p.2
  | p :: q :: r => fun τ h => (p.2 τ h).bind fun c h1 => if c = true then .ok true h1 else orT (q :: r) τ h1
def mkV (f : Fe) : Fe × Ft := (f, fun τ h => truR (f τ h))
def mkC (f : Fe) : Fe × Ft := (f, fun τ h => bolR (f τ h))
def isLst (h : Hd) : D → Bool
  | .ref n => match h[n]? with | some (.lst _) => true | _ => false
  | _ => false
/-- what is walked: the items, the lists that must stay as they are -/
structure ItD where
  items : List D
  srcs : List (Nat × List D)
def ItD.guard (I : ItD) (h : Hd) : Prop := ∀ p ∈ I.srcs, h[p.1]? = some (.lst p.2)
def setNs : List Nat → List D → Sd → Sd
  | i :: is, d :: ds, τ => setNs is ds (τ.set i (some d))
  | _, _, τ => τ
def setTg : ITg → D → Sd → Option Sd
  | .name i, d, τ => some (τ.set i (some d))
  | .tup is, .tup ds, τ => if ds.length = is.length then some (setNs is ds τ) else none
  | .tup _, _, _ => none
def wipeD (τ : Sd) : List Nat → Sd
  | [] => τ
  | v :: vs => (wipeD τ vs).set v none
def noEx {α : Type} : Res α → Res α
  | .ex _ _ => .bad
  | r => r
def testO : Option Ft → Ft
  | none => fun _ h => .ok true h
  | some f => f
open Classical in
noncomputable def compL (I : ItD) (t : ITg) (c : Option Ft) (e : Fe) (τ : Sd) : List D → Hd → Res (List D)
  | [], h => if I.guard h then .ok [] h else .bad
  | d :: r, h => if I.guard h then
      match setTg t d τ with
      | none => .bad
      | some τ1 => (testO c τ1 h).bind fun k h1 =>
        if k = true then (e τ1 h1).bind fun x h2 => (compL I t c e τ r h2).bind fun xs h3 => .ok (x :: xs) h3 else compL I t c e τ r h1
    else .bad
def itSeq (d : D) (h : Hd) : Option ItD := match d with
  | .tup ds => some ⟨ds, []⟩
  | .rol ds => some ⟨ds, []⟩
  | .ref n => match h[n]? with | some (.lst ds) => some ⟨ds, [(n, ds)]⟩ | _ => none
  | _ => none
@[irreducible] def itRng (lo hi : Int) : Option ItD := if -(2 ^ 62) ≤ lo ∧ lo < 2 ^ 62 ∧ -(2 ^ 62) ≤ hi ∧ hi < 2 ^ 62 then some ⟨(List.range (hi - lo).toNat).map fun (i : Nat) => .int (lo + (i : Int)), []⟩ else none
def enumD : Nat → List D → List D
  | _, [] => []
  | i, d :: ds => .tup [.int (i : Nat), d] :: enumD (i + 1) ds
def itEnum (d : D) (h : Hd) : Option ItD := (itSeq d h).map fun I => ⟨enumD 0 I.items, I.srcs⟩
def ofI (o : Option ItD) (h : Hd) : Res ItD := match o with | some I => .ok I h | none => .bad
/-- what is sorted: a list, a tuple; the items of a dict -/
def srcOf (v : Bool) (d : D) (h : Hd) : Option (List D) := match v, d with
  | false, d => seqOf h d
  | true, .ref n => match h[n]? with | some (.dct kvs) => some (kvs.map fun p => .tup [p.1, p.2]) | _ => none
  | _, _ => none
open Classical in
noncomputable def sortR (v : Bool) (F : D → Hd → Res D) (x : D) (h : Hd) : Res D := match srcOf v x h with
  | none => .bad
  | some ds => if ds.length ≤ sizeLine then (noEx (keysL F ds h)).bind fun ks h1 => if SortsOk ks then .ok (.ref h1.length) (h1 ++ [.lst (sortB (ds.zip ks))]) else .bad else .bad
def itZip (d e : D) (h : Hd) : Option ItD := match itSeq d h, itSeq e h with
  | some I, some J => match d, e with
    | .tup _, .tup _ => some ⟨(I.items.zip J.items).map fun p => .tup [p.1, p.2], []⟩
    | .ref _, .ref _ => some ⟨(I.items.zip J.items).map fun p => .tup [p.1, p.2], I.srcs ++ J.srcs⟩
    | _, _ => none
  | _, _ => none
mutual
noncomputable def evP (C : Tab) : IE → Fe × Ft
  | .var i => mkV fun τ h => match τ[i]? with | some (some d) => .ok d h | _ => .bad
  | .int i => mkV fun _ h => .ok (.int i) h
  | .str x => mkV fun _ h => .ok (.str x) h
  | .bl b => mkV fun _ h => .ok (.bl b) h
  | .non => mkV fun _ h => .ok .non h
  | .op2 o a b => mkV fun τ h => ((evP C a).1 τ h).bind fun x h1 => ((evP C b).1 τ h1).bind fun y h2 => ofO (semO o x y h2)
  | .cmp o a b => mkC fun τ h => ((evP C a).1 τ h).bind fun x h1 => ((evP C b).1 τ h1).bind fun y h2 => ofO (semC o x y h2)
  | .neg a => mkV fun τ h => ((evP C a).1 τ h).bind fun x h1 => ofO (semNeg x h1)
  | .nt a => (fun τ h => (bolR ((evP C a).1 τ h)).bind fun c h1 => .ok (.bl !c) h1, fun τ h => ((evP C a).2 τ h).bind fun c h1 => .ok (!c) h1)
  | .and es => (andV (evPs C es), andT (evPs C es))
  | .or es => (orV (evPs C es), orT (evPs C es))
  | .ife c a b => (fun τ h => ((evP C c).2 τ h).bind fun k h1 => if k = true then (evP C a).1 τ h1 else (evP C b).1 τ h1, fun _ _ => .bad)
  | .tup es => mkV fun τ h => (evL (evPs C es) τ h).bind fun ds h1 => if ds.length ≤ sizeLine then .ok (.tup ds) h1 else .bad
  | .lst es => mkV fun τ h => (evL (evPs C es) τ h).bind fun ds h1 => if ds.length ≤ sizeLine then .ok (.ref h1.length) (h1 ++ [.lst ds]) else .bad
  | .ix a i => mkV fun τ h => ((evP C a).1 τ h).bind fun x h1 => ((evP C i).1 τ h1).bind fun y h2 => ofO (semIx2 x y h2)
  | .sl a lo hi => mkV fun τ h => ((evP C a).1 τ h).bind fun x h1 => (evO C lo τ h1).bind fun l h2 => (evO C hi τ h2).bind fun u h3 => ofO (semSl x l u h3)
  | .bc b es => mkV fun τ h => (evL (evPs C es) τ h).bind fun ds h1 => ofO (semB b ds h1)
  | .isi a t => mkV fun τ h => ((evP C a).1 τ h).bind fun x h1 => match tyD h1 x with | some u => .ok (.bl (isT u t)) h1 | none => .bad
  | .call f es => mkV fun τ h => (evL (evPs C es) τ h).bind fun ds h1 => C f ds h1
  | .mth m o es => mkV fun τ h => ((evP C o).1 τ h).bind fun x h1 => if isLst h1 x = true then (evL (evPs C es) τ h1).bind fun ds h2 => ofO (semM m x ds h2) else .bad
  | .comp t vs it c e => mkV fun τ h => (evI C it τ h).bind fun I h1 => (noEx (compL I t (evC C c) (evP C e).1 (wipeD τ vs) I.items h1)).bind fun ds h2 => if ds.length ≤ sizeLine then .ok (.ref h2.length) (h2 ++ [.lst ds]) else .bad
  | .sortk v e f => mkV fun τ h => ((evP C e).1 τ h).bind fun x h1 => sortR v (fun d h => C f [d] h) x h1
  | .sortl e b => mkV fun τ h => ((evP C e).1 τ h).bind fun x h1 => sortR false (fun d h => (evP C b).1 [some d] h) x h1
  | .gint _ i => mkV fun _ h => .ok (.int i) h
  | .dnew => mkV fun _ h => .ok (.ref h.length) (h ++ [.dct []])
noncomputable def evI (C : Tab) : IIt → Sd → Hd → Res ItD
  | .seq e => fun τ h => ((evP C e).1 τ h).bind fun d h1 => ofI (itSeq d h1) h1
  | .rng1 e => fun τ h => ((evP C e).1 τ h).bind fun d h1 => match d with | .int j => ofI (itRng 0 j) h1 | _ => .bad
  | .rng2 a b => fun τ h => ((evP C a).1 τ h).bind fun d h1 => ((evP C b).1 τ h1).bind fun e h2 => match d, e with | .int i, .int j => ofI (itRng i j) h2 | _, _ => .bad
  | .enum e => fun τ h => ((evP C e).1 τ h).bind fun d h1 => ofI (itEnum d h1) h1
  | .zip a b => fun τ h => ((evP C a).1 τ h).bind fun d h1 => ((evP C b).1 τ h1).bind fun e h2 => ofI (itZip d e h2) h2
noncomputable def evC (C : Tab) : IO → Option Ft
  | .no => none
  | .yes e => some (evP C e).2
noncomputable def evPs (C : Tab) : IEs → List (Fe × Ft)
  | .nil => []
  | .cons e es => evP C e :: evPs C es
noncomputable def evO (C : Tab) : IO → Fo
  | .no => fun _ h => .ok none h
  | .yes e => fun τ h => ((evP C e).1 τ h).bind fun d h1 => match d with | .int i => .ok (some i) h1 | _ => .bad
end
noncomputable abbrev evE (C : Tab) (e : IE) : Fe := (evP C e).1
noncomputable abbrev evT (C : Tab) (e : IE) : Ft := (evP C e).2

structure Tb where
  gints : List (Str × Int) := []
  excs : List (Nat × Str) := []
  efs : List (Nat × Str) := []
  isx : List ((Nat × Str) × Bool) := []
  exm : List ((Nat × Str) × Bool) := []
structure Ck where
  N : List Str
  sc : Scope
  cells : List Str
  free : List Str
  fns : List (Nat × (Str × Nat))
  lam : Bool := false
  tb : Tb := {}
def notStar : Expr → Bool | .Starred _ _ => false | _ => true
def plainBase : Expr → Bool | .Call _ _ _ _ => false | _ => true
def plainTruth : Expr → Bool | .UnaryOp .Not _ _ => false | .BoolOp _ _ _ => false | .IfExp _ _ _ _ => false | .Compare _ _ _ _ => false | _ => true
def notSlice : Expr → Bool | .Slice _ _ _ _ => false | _ => true
def notSet : Expr → Bool | .Set _ _ _ => false | _ => true
def visB (sc : Scope) (x : Str) : Bool := match sc.names.lookup x with | some .local => true | some .cell => true | some .free => true | _ => false
def glB (sc : Scope) (x : Str) : Bool := match sc.names.lookup x with | some .globalImplicit => true | _ => false
def seqB (x y : Str) : Bool := decide (x = y)
def dbgB (x : Str) : Bool := !(x == ("__debug__" : Str)) && !(x == ("__classdict__" : Str)) && !(x == ("__name__" : Str))
def relSN (scope sc : Scope) : Scope := { scope with names := scope.names.map fun (n, k) => if (k == .free && sc.kind == .function && sc.names.lookup n == some .cell) then (n, .cell) else (n, k) }
/-- a lambda of one plain parameter -/
def lamPar : Arguments → Option Str
  | ⟨[], [⟨a, none, _⟩], none, [], [], none, []⟩ => some a
  | _ => none
/-- a def's scope, looked at -/
def fnScB (N P : List Str) (sc : Scope) : Bool := decide (sc.kind = .function) && !sc.isCoroutine && !sc.isGenerator && decide N.Nodup && decide (N.take P.length = P) && P.all (fun x => decide (sc.names.lookup x = some .local) || decide (sc.names.lookup x = some .cell)) && sc.names.all fun y => !decide (y.2 = .free)
theorem fnScB_ok {N P : List Str} {sc : Scope} (h : fnScB N P sc = true) : FnScope N P sc := by
  unfold fnScB at h
  simp only [Bool.and_eq_true, Bool.or_eq_true, Bool.not_eq_true', decide_eq_true_eq, decide_eq_false_iff_not, List.all_eq_true] at h
  obtain ⟨⟨⟨⟨⟨⟨h1, h2⟩, h3⟩, h4⟩, h5⟩, h6⟩, h7⟩ := h
  exact ⟨h1, h2, h3, h4, h5, fun x hx => h6 x hx, h7⟩
def Ck.lamC (c : Ck) (a : Str) (scope : Scope) : Ck := { N := [a], sc := scope, cells := [], free := c.free, fns := [], tb := c.tb }
def Ck.blk (c : Ck) (scope : Scope) : Ck := { c with lam := false, sc := relSN scope c.sc, cells := scope.names.filterMap fun (n, k) => if k == .cell then some n else none }
def locB (c : Ck) (x : Str) : Bool := match c.sc.names.lookup x with | some .local => true | some .cell => c.cells.contains x | _ => false
def mNm (c : Ck) (i : Nat) : Expr → Bool
  | .Name x _ => decide (c.N[i]? = some x) && locB c x
  | _ => false
def mNms (c : Ck) : List Nat → List Expr → Bool
  | [], [] => true
  | i :: is, e :: es => mNm c i e && mNms c is es
  | _, _ => false
def mTg (c : Ck) : ITg → Expr → Bool
  | .name i, e => mNm c i e
  | .tup is, .Tuple es _ _ => mNms c is es
  | .tup _, _ => false
def tgIn : ITg → List Nat → Bool
  | .name i, vs => vs.contains i
  | .tup is, vs => is.all fun i => vs.contains i
/-- a comprehension's block: its own names with their places -/
def ownOf (N : List Str) (vs : List Nat) : List (Str × Nat) := vs.filterMap fun i => N[i]?.map fun x => (x, i)
def mComp (c : Ck) (t : ITg) (vs : List Nat) (tg : Expr) (scope : Scope) : Bool := blkC c.N c.sc scope (ownOf c.N vs) && decide ((ownOf c.N vs).map (·.2) = vs) && mTg (c.blk scope) t tg
mutual
def mE (c : Ck) : IE → Expr → Bool
  | .var i => fun e => match e with | .Name x _ => decide (c.N[i]? = some x) && visB c.sc x && dbgB x | _ => false
  | .int i => fun e => match e with | .Constant (.int j) _ _ => decide (i = j) | _ => false
  | .str x => fun e => match e with | .Constant (.str y) _ _ => seqB x y | _ => false
  | .bl b => fun e => match e with | .Constant (.bool d) _ _ => b == d | _ => false
  | .non => fun e => match e with | .Constant .none _ _ => true | _ => false
  | .op2 o a b => fun e => match e with | .BinOp ea eo eb _ => decide (o.op = eo) && mE c a ea && mE c b eb | _ => false
  | .cmp o a b => fun e => match e with | .Compare ea [eo] [eb] _ => decide (o.op = eo) && mE c a ea && mE c b eb && notSet eb | _ => false
  | .neg a => fun e => match e with | .UnaryOp .USub ea _ => mE c a ea | _ => false
  | .nt a => fun e => match e with | .UnaryOp .Not ea _ => mE c a ea | _ => false
  | .and es => fun e => match e with | .BoolOp .And ees _ => mEs c es ees | _ => false
  | .or es => fun e => match e with | .BoolOp .Or ees _ => mEs c es ees | _ => false
  | .ife t a b => fun e => match e with | .IfExp et ea eb _ => mE c t et && mE c a ea && mE c b eb | _ => false
  | .tup es => fun e => match e with | .Tuple ees _ _ => mEs c es ees | _ => false
  | .lst es => fun e => match e with | .List ees _ => mEs c es ees | _ => false
  | .ix a i => fun e => match e with | .Subscript ea ei _ => mE c a ea && mE c i ei && notSlice ei | _ => false
  | .sl a lo hi => fun e => match e with | .Subscript ea (.Slice l u none _) _ => mE c a ea && mO c lo l && mO c hi u | _ => false
  | .bc b es => fun e => match e with | .Call (.Name x _) (ee :: ees) [] _ => seqB b.name x && glB c.sc x && c.free.contains x && mEs c es (ee :: ees) | _ => false
  | .isi a t => fun e => match e with | .Call (.Name x _) [ea, .Name y _] [] _ => seqB "isinstance" x && glB c.sc x && c.free.contains x && seqB t.name y && glB c.sc y && c.free.contains y && decide (t ≠ .non) && mE c a ea && notStar ea | _ => false
  | .call f es => fun e => match e with
    | .Call (.Name x _) (ee :: ees) [] _ => (match c.fns.lookup f with | some (y, n) => seqB x y && decide (n = ees.length + 1) | none => false) && glB c.sc x && dbgB x && mEs c es (ee :: ees)
    | _ => false
  | .mth .append o es => fun e => match e with | .Call (.Attribute eo x ap) [ee] [] cp => seqB "append" x && plainBase eo && decide (ap.endLine = cp.line) && mE c o eo && mEs c es [ee] | _ => false
  | .comp t vs it co e => fun x => match x with
    | .ListComp elt [⟨tg, iter, ifs, 0⟩] scope _ => mI c it tg iter && decide (tgIn t vs = true) && mComp c t vs tg scope && mCs (c.blk scope) co ifs && mE (c.blk scope) e elt
    | _ => false
  | .sortk v e f => fun x => match x with
    | .Call (.Name y _) [ea] [⟨some kx, .Name z _, _⟩] _ => seqB "sorted" y && glB c.sc y && c.free.contains y && seqB "key" kx && (match c.fns.lookup f with | some (q, n) => seqB z q && decide (n = 1) | none => false) && glB c.sc z && dbgB z &&
      (match v with | false => mE c e ea | true => (match ea with | .Call (.Attribute eo fx ap) [] [] cp => seqB "items" fx && plainBase eo && decide (ap.endLine = cp.line) && mE c e eo | _ => false)) && notStar ea
    | _ => false
  | .sortl e b => fun x => match x with
    | .Call (.Name y _) [ea] [⟨some kx, .Lambda params body scope _, _⟩] _ => seqB "sorted" y && glB c.sc y && c.free.contains y && seqB "key" kx && c.lam && mE c e ea && notStar ea && (match lamPar params with | some a => fnScB [a] [a] scope && mE (c.lamC a scope) b body | none => false)
    | _ => false
  | .gint x i => fun e => match e with | .Name y _ => seqB x y && glB c.sc y && dbgB y && decide (c.tb.gints.lookup x = some i) | _ => false
  | .dnew => fun e => match e with | .Dict [] [] _ => true | _ => false
def mI (c : Ck) : IIt → Expr → Expr → Bool
  | .seq e => fun _ x => notSet x && mE c e x
  | .rng1 e => fun _ x => match x with | .Call (.Name y _) [a] [] _ => seqB "range" y && glB c.sc y && c.free.contains y && mE c e a && notStar a | _ => false
  | .rng2 e f => fun _ x => match x with | .Call (.Name y _) [a, b] [] _ => seqB "range" y && glB c.sc y && c.free.contains y && (mE c e a && notStar a) && (mE c f b && notStar b) | _ => false
  | .enum e => fun tg x => (match tg with | .Tuple _ _ _ => true | _ => false) && (match x with | .Call (.Name y _) [a] [] _ => seqB "enumerate" y && glB c.sc y && c.free.contains y && mE c e a && notStar a | _ => false)
  | .zip e f => fun tg x => (match tg with | .Tuple _ _ _ => true | _ => false) && (match x with | .Call (.Name y _) [a, b] [] _ => seqB "zip" y && glB c.sc y && c.free.contains y && (mE c e a && notStar a) && (mE c f b && notStar b) | _ => false)
def mCs (c : Ck) : IO → List Expr → Bool
  | .no => fun l => match l with | [] => true | _ => false
  | .yes e => fun l => match l with | [x] => mE c e x | _ => false
def mEs (c : Ck) : IEs → List Expr → Bool
  | .nil => fun es => match es with | [] => true | _ => false
  | .cons e es => fun l => match l with | ee :: ees => mE c e ee && notStar ee && mEs c es ees | _ => false
def mO (c : Ck) : IO → Option Expr → Bool
  | .no => fun o => match o with | none => true | _ => false
  | .yes e => fun o => match o with | some ee => mE c e ee | _ => false
end
end DL

set_option Elab.async false
set_option linter.all false
set_option maxRecDepth 100000
namespace DL
open PySem PySem.Spec PyProof.Rows L2

/-- a def's promise by its meaning -/
def PF (g : Gd) (H : Hp) (m : List Addr) (Q : VK) (E : XK) : Res D → Prop
  | .ok d h' => ∀ v H' m', Ext H m H' m' → Rel g H' m' h' → DV g.K H' m' v d → Q v H'
  | .ex x h' => ∀ c d H' m', Ext H m H' m' → Rel g H' m' h' → EV g H' m' x c d → E c d H'
  | .bad => False
def spF (g : Gd) (n : Nat) (F : Fn) : Sp := fun vs H Q E => ∃ m h ds, Rel g H m h ∧ DVs g.K H m vs ds ∧ ds.length = n ∧ PF g H m Q E (F ds h)
structure FnD (P : Program) (w : World) (K : PySem.W.Frag) (mg : Str → Option Value) (base : Heap) (k : Nat) (g : Gd) (x : Str) (n : Nat) (F : Fn) : Prop where
  len : ∀ ds h, ds.length ≠ n → F ds h = .bad
  ex : ∃ f fd ps, mg x = some (.ref f) ∧ PySem.W.keepIn K (.ref f) = true ∧ Binds K fd ps [] ∧ ps.length = n ∧ FnOk P w K mg base (L2.CX P w) k f fd ps (spF g n F)

/-- what a def that makes a lambda must have: its code object, that object's table -/
def LamOk (g : Gd) (base : Heap) (mg : Str → Option Value) (code : Value) (qual : Str) (k : Nat) : Prop :=
  1 ≤ k ∧ ∃ cc P, code = .ref cc ∧ LamX.TabB base mg cc P ∧ (P, qual ++ "<lambda>") ∈ g.T ∧ ∀ p ∈ g.T, p.1 = P → p.2 = qual ++ "<lambda>"
/-- a global name's value, as data of the layer -/
structure NameV (mg : Str → Option Value) (y : Str) (u : Value) (v : V) : Prop where
  at_ : mg y = some u ∨ (mg y = none ∧ bootBuiltins y = some u ∧ y ≠ "__name__")
  rel : RelV v u
  one : ∀ u', RelV v u' → u' = u
  dbg : (y == ("__debug__" : Str)) = false
/-- what the head tells of a law's constants and exceptions -/
structure GF (g : Gd) (K : PySem.W.Frag) (mg : Str → Option Value) (t : Tb) : Prop where
  gints : ∀ x i, t.gints.lookup x = some i → ∃ tk, mg x = some (.int i tk)
  exc : ∀ n x, t.excs.lookup n = some x → ∃ C, g.cl n = some C ∧ mg x = some (.ref C) ∧ PySem.W.keepIn K (.ref C) = true ∧ PySem.W.excIn K C He.veBase "ValueError.__new__" = true ∧ PySem.W.subIn K (.ref C) (.type "BaseException") = some true ∧ PySem.W.typeIn K (.ref C) = some (.type "type")
  efs : ∀ n f, t.efs.contains (n, f) = true → ∃ C, g.cl n = some C ∧ XfC K C ∧ PySem.W.findIn K (.ref C) f = some none
  isx : ∀ n y b, t.isx.lookup (n, y) = some b → ∃ C u v, g.cl n = some C ∧ ExcC K C ∧ NameV mg y u v ∧ PySem.W.kitOne K (.ref C) u = some b
  exm : ∀ n y b, t.exm.lookup (n, y) = some b → ∃ C u v, g.cl n = some C ∧ NameV mg y u v ∧ PySem.W.exmOne K (.ref C) u = some b
structure XOk (X : Cx) (c : Ck) (g : Gd) (C : Tab) (W : WX) (k : Nat) : Prop where
  N : X.N = c.N
  nd : X.N.Nodup
  sc : X.env.scope.names = c.sc.names
  kind : X.env.scope.kind = .function
  ckind : c.sc.kind = .function
  K : X.K = g.K
  calm : X.calm = true
  cells : ∀ x, c.cells.contains x = true → X.fn x = true
  free : ∀ x, c.free.contains x = true → X.mg x = none
  fns : ∀ f x n, c.fns.lookup f = some (x, n) → FnD X.prog X.w X.K X.mg X.base k g x n (C f)
  room : Room (k + 3) X.A
  lam : c.lam = true → LamOk g X.base X.mg X.env.code X.env.qual k
  takes : Takes X W
  own : PassesOwn (model X.prog X.w) X.A X.env X.xe
  gf : GF g X.K X.mg c.tb

section
variable {g : Gd} {W : WX} {σ : L2.St} {H : Hp} {m : List Addr} {τ : Sd} {h : Hd}
theorem star_of {e : Expr} {es : List Expr} {env : Env} (n : notStar e = true) : starEach (e :: es) env = (false, eval e env) :: starEach es env := by
  cases e <;> first | rfl | cases n
theorem any_back {pos : Pos} {env : Env} : ∀ {es : List Expr}, (∀ e ∈ es, notStar e = true) → (backTo pos (starEach es env)).any (·.1) = false
  | [], _ => rfl
  | e :: es, n => by
    rw [star_of (n e List.mem_cons_self)]
    show (false || (backTo pos (starEach es env)).any (·.1)) = false
    rw [any_back fun x hx => n x (List.mem_cons_of_mem _ hx)]
    rfl
theorem base_of {e : Expr} {f : Str} {env : Env} {whole : Sem Value} (n : plainBase e = true) : attributeBase e f env whole = whole := by
  cases e <;> first | rfl | cases n
theorem behind_of {op : CmpOp} {e : Expr} (n : notSet e = true) : behindInMarks op e = false := by
  cases e <;> first | rfl | cases n
theorem ix_of {e : Expr} (n : notSlice e = true) : PlainIx e := by
  intro o i
  cases e <;> first | rfl | cases n
theorem vis_of {sc sc' : Scope} {x : Str} (e : sc'.names = sc.names) (n : visB sc x = true) : Vis sc' x := by
  unfold visB at n
  rw [← e] at n
  split at n
  · exact .inl (by assumption)
  · exact .inr (.inl (by assumption))
  · exact .inr (.inr (by assumption))
  · cases n
theorem gl_of {X : Cx} {sc : Scope} {x : Str} (e : X.env.scope.names = sc.names) (n : glB sc x = true) : Gl X x := by
  unfold glB at n
  rw [← e] at n
  split at n
  · assumption
  · cases n
theorem seq_of {x y : Str} (n : seqB x y = true) : x = y := of_decide_eq_true n
theorem dbg_of {x : Str} (n : dbgB x = true) : (x == ("__debug__" : Str)) = false ∧ (x == ("__classdict__" : Str)) = false ∧ x ≠ ("__name__" : Str) := by
  unfold dbgB at n
  simp only [Bool.and_eq_true, Bool.not_eq_true'] at n
  obtain ⟨⟨a, b⟩, c⟩ := n
  refine ⟨a, b, fun e => ?_⟩
  rw [e] at c
  simp at c
theorem and3 {a b : Bool} (h : (a && b) = true) : a = true ∧ b = true := Bool.and_eq_true_iff.mp h

theorem LE.mono {f : Fe} {Q Q' : VK} (p : LE g W f σ H Q) (hq : ∀ v H', Q v H' → Q' v H') : LE g W f σ H Q' := by
  obtain ⟨m, τ, h, a, p⟩ := p
  exact ⟨m, τ, h, a, p.mono hq⟩
theorem LA.mono {f : Fes} {Q Q' : List V → Hp → Prop} (p : LA g W f σ H Q) (hq : ∀ v H', Q v H' → Q' v H') : LA g W f σ H Q' := by
  obtain ⟨m, τ, h, a, p⟩ := p
  exact ⟨m, τ, h, a, p.mono hq⟩
theorem LT.mono {f : Ft} {Q Q' : Bool → Hp → Prop} (p : LT g W f σ H Q) (hq : ∀ v H', Q v H' → Q' v H') : LT g W f σ H Q' := by
  obtain ⟨m, τ, h, a, p⟩ := p
  exact ⟨m, τ, h, a, p.mono hq⟩
/-- what stands behind a step -/
structure Bh (g : Gd) (W : WX) (σ : L2.St) (H : Hp) {α β γ δ : Type} (rel : Hp → List Addr → β → α → Prop) (rel' : Hp → List Addr → δ → γ → Prop) (Q : δ → Hp → Prop) (k : α → Sd → Hd → Res γ) (v : β) : Prop where
  ex : ∃ m τ h d, At g σ H m τ h ∧ rel H m v d ∧ Post g W σ H m rel' Q (k d τ h)
theorem LE.bd {γ δ : Type} {rel' : Hp → List Addr → δ → γ → Prop} {Q : δ → Hp → Prop} {f : Fe} {k : D → Sd → Hd → Res γ} (a : At g σ H m τ h) (p : Post g W σ H m rel' Q ((f τ h).bind fun d h1 => k d τ h1)) :
    LE g W f σ H fun v H1 => Bh g W σ H1 (DV g.K) rel' Q k v :=
  ⟨m, τ, h, a, (Post.bind a p).mono fun v H' ⟨m1, h1, d, a1, _, r, p1⟩ => ⟨m1, τ, h1, d, a1, r, p1⟩⟩
theorem LT.bd {γ δ : Type} {rel' : Hp → List Addr → δ → γ → Prop} {Q : δ → Hp → Prop} {f : Ft} {k : Bool → Sd → Hd → Res γ} (a : At g σ H m τ h) (p : Post g W σ H m rel' Q ((f τ h).bind fun d h1 => k d τ h1)) :
    LT g W f σ H fun v H1 => Bh g W σ H1 relB rel' Q k v :=
  ⟨m, τ, h, a, (Post.bind a p).mono fun v H' ⟨m1, h1, d, a1, _, r, p1⟩ => ⟨m1, τ, h1, d, a1, r, p1⟩⟩
theorem LA.bd {γ δ : Type} {rel' : Hp → List Addr → δ → γ → Prop} {Q : δ → Hp → Prop} {f : Fes} {k : List D → Sd → Hd → Res γ} (a : At g σ H m τ h) (p : Post g W σ H m rel' Q ((f τ h).bind fun d h1 => k d τ h1)) :
    LA g W f σ H fun v H1 => Bh g W σ H1 (DVs g.K) rel' Q k v :=
  ⟨m, τ, h, a, (Post.bind a p).mono fun v H' ⟨m1, h1, d, a1, _, r, p1⟩ => ⟨m1, τ, h1, d, a1, r, p1⟩⟩
theorem LE.two {fa fb : Fe} {sem : D → D → Hd → So} {Q : VK} (p : LE g W (fun τ h => (fa τ h).bind fun x h1 => (fb τ h1).bind fun y h2 => ofO (sem x y h2)) σ H Q) : tOp (rD g sem) (LE g W fa) (LE g W fb) σ H Q := by
  obtain ⟨m, τ, h, a, p⟩ := p
  refine (LE.bd (k := fun x τ h1 => (fb τ h1).bind fun y h2 => ofO (sem x y h2)) a p).mono fun x H1 ⟨m1, τ1, h1, d1, a1, r1, p1⟩ => ?_
  refine ⟨m1, τ1, h1, a1, (Post.bind a1 p1).mono fun y H2 ⟨m2, h2, d2, a2, st, r2, p2⟩ => ?_⟩
  exact ⟨m2, h2, d1, d2, a2.rel, r1.stay st, r2, p2.po⟩
theorem LE.one {fa : Fe} {sem : D → Hd → So} {Q : VK} (p : LE g W (fun τ h => (fa τ h).bind fun x h1 => ofO (sem x h1)) σ H Q) : tUn (rU g sem) (LE g W fa) σ H Q := by
  obtain ⟨m, τ, h, a, p⟩ := p
  refine (LE.bd (k := fun x _ h1 => ofO (sem x h1)) a p).mono fun x H1 ⟨m1, τ1, h1, d1, a1, r1, p1⟩ => ?_
  exact ⟨m1, h1, d1, a1.rel, r1, p1.po⟩
theorem LE.pure {f : Fe} {Q : VK} {v : V} {d : Sd → D} (hf : ∀ τ h, f τ h = .ok (d τ) h) (hd : ∀ m τ h, At g σ H m τ h → DV g.K H m v (d τ)) (p : LE g W f σ H Q) : Q v H := by
  obtain ⟨m, τ, h, a, p⟩ := p
  rw [hf] at p
  exact p.ok a (hd m τ h a)
end

section
variable {X : Cx} {c : Ck} {g : Gd} {C : Tab} {W : WX} {k : Nat}
/-- a value's truth as a test -/
theorem pt_tru {e : Expr} {f : Fe} (ok : XOk X c g C W k) (he : PE X e (LE g W f)) (n : plainTruth e = true) : PT X e (LT g W (mkV f).2) := by
  refine PT.weak (pt_truth he fun whole => ?_) fun σ H Q ⟨m, τ, h, a, p⟩ => ?_
  · cases e <;> first | rfl | (cases n; done) | skip
    rename_i o _ _
    cases o <;> first | rfl | cases n
  · refine (LE.bd (k := fun d _ h1 => match truD d h1 with | some k => .ok k h1 | none => .bad) a p).mono fun x H1 ⟨m1, τ1, h1, d1, a1, r1, p1⟩ => ?_
    cases e : truD d1 h1 with
    | none => rw [e] at p1; exact p1.elim
    | some k =>
      rw [e] at p1
      exact ⟨k, truD_ok ok.K a1.rel r1 e, p1.ok a1 rfl⟩
theorem bolR_true {r : Res D} : bolR r = r.bind fun d h => match d with | .bl k => .ok k h | _ => .bad := rfl

/-- the kinds of truth: as in mkV, as in mkC -/
theorem both_v {e : Expr} {f : Fe} (ok : XOk X c g C W k) (he : PE X e (LE g W f)) (n : plainTruth e = true) : PE X e (LE g W (mkV f).1) ∧ PT X e (LT g W (mkV f).2) := ⟨he, pt_tru ok he n⟩
theorem both_i {e : Expr} {f : Fe} (he : PE X e (LE g W f)) (n : plainTruth e = false → False) (ok : XOk X c g C W k) : PE X e (LE g W (mkV f).1) ∧ PT X e (LT g W (mkV f).2) :=
  ⟨he, pt_tru ok he (by cases q : plainTruth e with | true => rfl | false => exact (n q).elim)⟩

structure SEs (X : Cx) (g : Gd) (W : WX) (ees : List Expr) (ps : List (Fe × Ft)) : Prop where
  pa : PA X ees (LA g W (evL ps))
  ns : ∀ e ∈ ees, notStar e = true
  len : ees.length = ps.length
  andv : ∀ pos, PE X (.BoolOp .And ees pos) (LE g W (andV ps))
  orv : ∀ pos, PE X (.BoolOp .Or ees pos) (LE g W (orV ps))
  andt : ∀ pos, PW X (.BoolOp .And ees pos) (LT g W (andT ps))
  ort : ∀ pos, PW X (.BoolOp .Or ees pos) (LT g W (orT ps))
theorem never_e {e : Expr} : PE X e (LE g W fun _ _ => .bad) := ⟨fun _ _ _ _ _ _ ⟨_, _, _, _, p⟩ => p.elim⟩
theorem never_w {e : Expr} : PW X e (LT g W fun _ _ => .bad) := ⟨fun _ _ _ _ _ _ _ ⟨_, _, _, _, p⟩ => p.elim⟩
theorem never_t {e : Expr} : PT X e (LT g W fun _ _ => .bad) := ⟨fun _ _ _ _ _ _ ⟨_, _, _, _, p⟩ => p.elim⟩
theorem ses_nil : SEs X g W [] [] where
  pa := PA.weak pa_nil fun σ H Q ⟨m, τ, h, a, p⟩ => p.ok a .nil
  ns := fun _ z => nomatch z
  len := rfl
  andv := fun _ => never_e
  orv := fun _ => never_e
  andt := fun _ => never_w
  ort := fun _ => never_w
theorem ses_cons {e : Expr} {es : List Expr} {p : Fe × Ft} {ps : List (Fe × Ft)} (he : PE X e (LE g W p.1)) (ht : PT X e (LT g W p.2)) (n : notStar e = true) (r : SEs X g W es ps) : SEs X g W (e :: es) (p :: ps) where
  pa := PA.weak (pa_cons he r.pa (star_of n)) fun σ H Q ⟨m, τ, h, a, q⟩ => by
    refine (LE.bd (k := fun d τ h1 => (evL ps τ h1).bind fun ds h2 => .ok (d :: ds) h2) a q).mono fun x H1 ⟨m1, τ1, h1, d1, a1, r1, p1⟩ => ?_
    refine ⟨m1, τ1, h1, a1, (Post.bind a1 p1).mono fun xs H2 ⟨m2, h2, d2, a2, st, r2, p2⟩ => ?_⟩
    exact p2.ok a2 (.cons (r1.stay st) r2)
  ns := fun x hx => by
    rcases List.mem_cons.mp hx with rfl | hx
    · exact n
    · exact r.ns x hx
  len := congrArg (· + 1) r.len
  andv := fun pos => by
    match es, ps, r with
    | [], [], _ => exact pe_one he
    | [], _ :: _, r => cases r.len
    | _ :: _, [], r => cases r.len
    | e2 :: es, p2 :: ps, r =>
      refine PE.weak (pe_and he (r.andv pos)) fun σ H Q ⟨m, τ, h, a, q⟩ => ?_
      refine (LE.bd (k := fun d τ h1 => match d with | .bl true => andV (p2 :: ps) τ h1 | .bl false => .ok (.bl false) h1 | _ => .bad) a q).mono fun x H1 ⟨m1, τ1, h1, d1, a1, r1, p1⟩ => ?_
      cases r1 with
      | bl b =>
        refine ⟨b, rfl, ?_⟩
        cases b with
        | true => exact ⟨m1, τ1, h1, a1, p1⟩
        | false => exact p1.ok a1 (.bl _)
      | _ => exact p1.elim
  orv := fun pos => by
    match es, ps, r with
    | [], [], _ => exact pe_one he
    | [], _ :: _, r => cases r.len
    | _ :: _, [], r => cases r.len
    | e2 :: es, p2 :: ps, r =>
      refine PE.weak (pe_or he (r.orv pos)) fun σ H Q ⟨m, τ, h, a, q⟩ => ?_
      refine (LE.bd (k := fun d τ h1 => match d with | .bl false => orV (p2 :: ps) τ h1 | .bl true => .ok (.bl true) h1 | _ => .bad) a q).mono fun x H1 ⟨m1, τ1, h1, d1, a1, r1, p1⟩ => ?_
      cases r1 with
      | bl b =>
        refine ⟨b, rfl, ?_⟩
        cases b with
        | true => exact p1.ok a1 (.bl _)
        | false => exact ⟨m1, τ1, h1, a1, p1⟩
      | _ => exact p1.elim
  andt := fun pos => by
    match es, ps, r with
    | [], [], _ => exact pw_and1 ht
    | [], _ :: _, r => cases r.len
    | _ :: _, [], r => cases r.len
    | e2 :: es, p2 :: ps, r =>
      refine PW.weak (pw_and ht (r.andt pos)) fun σ H Q ⟨m, τ, h, a, q⟩ => ?_
      refine (LT.bd (k := fun c τ h1 => if c = true then andT (p2 :: ps) τ h1 else .ok false h1) a q).mono fun x H1 ⟨m1, τ1, h1, d1, a1, r1, p1⟩ => ?_
      cases (show x = d1 from r1)
      cases x with
      | true => exact ⟨m1, τ1, h1, a1, p1⟩
      | false => exact p1.ok a1 rfl
  ort := fun pos => by
    match es, ps, r with
    | [], [], _ => exact pw_or1 ht
    | [], _ :: _, r => cases r.len
    | _ :: _, [], r => cases r.len
    | e2 :: es, p2 :: ps, r =>
      refine PW.weak (pw_or ht (r.ort pos)) fun σ H Q ⟨m, τ, h, a, q⟩ => ?_
      refine (LT.bd (k := fun c τ h1 => if c = true then .ok true h1 else orT (p2 :: ps) τ h1) a q).mono fun x H1 ⟨m1, τ1, h1, d1, a1, r1, p1⟩ => ?_
      cases (show x = d1 from r1)
      cases x with
      | true => exact p1.ok a1 rfl
      | false => exact ⟨m1, τ1, h1, a1, p1⟩

def LO (g : Gd) (W : WX) (f : Fo) : TO := fun σ H Q => ∃ m τ h, At g σ H m τ h ∧ Post g W σ H m (fun _ _ v d => v = d) Q (f τ h)
theorem take1 {xs : List V} {ds : List D} {K : PySem.W.Frag} {H : Hp} {m : List Addr} (r : DVs K H m xs ds) (z : ds.length ≤ sizeLine) : xs.length ≤ sizeLine := by rw [r.length]; exact z

end
end DL

set_option Elab.async false
set_option linter.all false
set_option maxRecDepth 100000
namespace DL
open PySem PySem.Spec PyProof.Rows L2
/-- a clause: the class, the name's slot, what its suite means -/
structure Clause where
  c : Value
  i : Option Nat
  ts : Addr → Value → Option Addr → TS
def dropI (i : Nat) (D : Ends) : Ends := { nx := fun σ H => D.nx (σ.set i none) H, rt := D.rt, bk := fun σ H => D.bk (σ.set i none) H, ct := fun σ H => D.ct (σ.set i none) H }
def Clause.go (q : Clause) (D : Ends) (cls : Value) (d : Option Addr) (σ : L2.St) (H : Hp) : Prop := match q.i with
  | none => ∀ a, H a = none → q.ts a cls d D σ H
  | some i => ∀ a, H a = none → q.ts a cls d (dropI i D) (σ.set i (some (.ref a))) H
/-- what the clauses wish of what the body raises -/
def wCl (K : PySem.W.Frag) (Wout : WX) (D : Ends) : List Clause → WX
  | [] => Wout
  | q :: r => fun cls d σ H => ∃ b, PySem.W.exmOne K cls q.c = some b ∧ (b = true → q.go D cls d σ H) ∧ (b = false → wCl K Wout D r cls d σ H)
def SuiteOk (X : Cx) (sts : List Stmt) (ts : Addr → Value → Option Addr → TS) : Prop := ∀ (a : Addr) (oe : Obj) (cls : Value) (d : Option Addr) (pn : List (Addr × Obj)), Zc cls d oe → (∃ vs, oe.data = .fields vs) → PSs (X.suite a ((a, oe) :: pn)) sts (ts a cls d)
inductive ClOk (X : Cx) : List ExceptHandler → List Clause → Prop
  | nil : ClOk X [] []
  | bare {x : Str} {c : Value} {ts : Addr → Value → Option Addr → TS} {b : Stmt} {sts : List Stmt} {p1 p2 : Pos} {hs : List ExceptHandler} {l : List Clause} (hc : Names X x c) (su : SuiteOk X (b :: sts) ts) (r : ClOk X hs l) :
      ClOk X (.ExceptHandler (some (.Name x p1)) none (b :: sts) p2 :: hs) (⟨c, none, ts⟩ :: l)
  | named {x n : Str} {i : Nat} {c : Value} {ts : Addr → Value → Option Addr → TS} {b : Stmt} {sts : List Stmt} {p1 p2 : Pos} {hs : List ExceptHandler} {l : List Clause} (hc : Names X x c) (hi : X.N[i]? = some n) (hl : X.env.kindOf n = some .local) (su : SuiteOk X (b :: sts) ts) (r : ClOk X hs l) :
      ClOk X (.ExceptHandler (some (.Name x p1)) (some n) (b :: sts) p2 :: hs) (⟨c, some i, ts⟩ :: l)
theorem ps_try_cl {X : Cx} {body : List Stmt} {h0 : ExceptHandler} {hs : List ExceptHandler} {l : List Clause} {pos : Pos} {tb : WX → TS} {Wout : WX} (hst : X.stack = X.env :: X.outer) (hf : X.env.frame = some X.env.locals) (hN : X.N.Nodup) (tk : Takes X Wout)
    (hb : ∀ (W : WX) (pn : List (Addr × Obj)) (xe : Value → Shared → Prop), Takes (X.tr pn xe) W → PassesOwn (model X.prog X.w) X.A X.env xe → PSs (X.tr pn xe) body (tb W)) (hh : ClOk X (h0 :: hs) l) :
    PS X (.Try body (h0 :: hs) [] [] pos) (fun D σ H => tb (wCl X.K Wout D l) D σ H) := by
  refine ⟨fun pins s σ H D I h => wpAny_Try_except ?_⟩
  have ok := I.ok
  have hfr : X.A.frames = some (X.env :: X.outer) := ok.frames.trans (congrArg some hst)
  refine wpAny_mono ((hb (wCl X.K Wout D l) (X.pn ++ pins) (fun e s₁ => wpAny (model X.prog X.w) X.A (noteFrame e X.env) (fun _ s₂ => wpAny (model X.prog X.w) X.A (setFlight e none) (fun _ s₃ => wpAny (model X.prog X.w) X.A (handleBy e X.env (h0 :: hs)) (SP X pins D) X.xe s₃) X.xe s₂) X.xe s₁) (fun u s' xx => ?caught) PassesOwn.looking).run [] s σ H D (I.toTry _) h) (fun f s1 hsp => ?thru) (fun e s1 he => he)
  case thru =>
    cases f with
    | next => exact wpAny_execs_nil (let ⟨σ', H', J, q⟩ := hsp; ⟨σ', H', J.ofTry ok, q⟩)
    | brk => exact (let ⟨σ', H', J, q⟩ := hsp; ⟨σ', H', J.ofTry ok, q⟩)
    | cont => exact (let ⟨σ', H', J, q⟩ := hsp; ⟨σ', H', J.ofTry ok, q⟩)
    | ret u => exact (let ⟨v, σ', H', J, r, q⟩ := hsp; ⟨v, σ', H', J.ofTry ok, r, q⟩)
  case caught =>
    obtain ⟨a, B, sI, pinsX, σ', H', cls, d, eu, JT, nb, up, sky, na, os, ag, w⟩ := xx
    subst eu
    have J : Inv X pins σ' H' sI := JT.ofTry ok
    show wpAny (model X.prog X.w) X.A (noteFrame (.ref a) X.env) _ _ _
    refine Sky.land Zc.steady hfr hf (by rw [← hst]; exact sky) fun h3 fl3 up3 => ?_
    have J3 : Inv X pins σ' H' { s' with heap := h3 } := J.landed nb fl3.1 (up.trans up3) os ag
    obtain ⟨oe, vs, he, hz, hd⟩ := fl3.there
    have nfr : a ∉ frs (X.env :: X.outer) := fun hm => by
      obtain ⟨_, o', e', hnf⟩ := fl3.2.2.1.mem hm
      exact hnf vs ((congrArg Obj.data (Option.some.inj (e'.symm.trans he))).trans hd)
    have nL : a ≠ X.env.locals := fun z => nfr (List.mem_filterMap.mpr ⟨X.env, List.mem_cons_self, hf.trans (congrArg some z.symm)⟩)
    have nF : a ∉ X.fs := fun hm => let ⟨e, he, q⟩ := List.mem_filterMap.mp hm; nfr (List.mem_filterMap.mpr ⟨e, List.mem_cons_of_mem _ he, q⟩)
    have S3 := J3.suite he hd na nL nF
    -- the clauses, one after the other
    suffices go : ∀ {hs' : List ExceptHandler} {l' : List Clause}, ClOk X hs' l' → wCl X.K Wout D l' cls d σ' H' → wpAny (model X.prog X.w) X.A (handleBy (.ref a) X.env hs') (SP X pins D) X.xe { s' with heap := h3 } from go hh w
    intro hs' l' hk
    have look : ∀ (x : Str) (c : Value) (p1 : Pos), Names X x c → ∀ (Q E : Value → Shared → Prop), Q c { s' with heap := h3 } → wpAny (model X.prog X.w) (X.A.mark (some (.ref a))) (eval (.Name x p1) X.env) Q E { s' with heap := h3 } := by
      intro x c p1 hc Q E q
      rcases hc with ⟨hg, hdbg, hm | ⟨hm, hv, hnn⟩⟩
      · exact ld_glob (X := X.suite a ((a, oe) :: (X.pn ++ pins))) S3 hg hm q hdbg
      · exact ld_blt (X := X.suite a ((a, oe) :: (X.pn ++ pins))) S3 hg hm hv q hnn hdbg
    have LT : PySem.W.Looks (model X.prog X.w) h3 (typeOf (.ref a)) cls := fun A Q E s k q => wpAny_typeOf_ref (k _ _ he) (by rw [hz.1]; exact q)
    induction hk with
    | nil =>
      intro w
      obtain ⟨k1, k2, k3, oe', vs', T, oT, ts', he', hz', hd', h1, hr⟩ := id fl3
      refine wpAny_handleBy_nil ?_
      unfold PySem.passOn
      refine wpAny_bind (wpAny_field he' hd' h1 ?_)
      rw [if_neg (by simp)]
      have fin : wpAny (model X.prog X.w) X.A (setFlight (.ref a) X.env.frame) (fun _ s4 => wpAny (model X.prog X.w) X.A (throw (.ref a) : Sem Flow) (SP X pins D) X.xe s4) X.xe { s' with heap := h3 } := by
        rw [hf]
        exact HandSPX.setFlight_upZ fl3 fun h4 hh4 up4 => wpAny_throw (tk _ _ ⟨a, B, sI, pins, σ', H', cls, d, rfl, J, nb, (up.trans up3).trans up4, .inr (.inr (by rw [hst]; exact hh4)), na, os, ag, w⟩)
      first | exact wpAny_bind (wpAny_pure (wpAny_bind fin)) | exact wpAny_bind fin
    | @bare x c ts b sts p1 p2 hs2 l2 hc su r ih =>
      intro w
      obtain ⟨k, hb1, hyes, hno⟩ := w
      refine wpAny_handleBy_cons (codeAny_handlers_test (look _ _ _ hc _ _ ((PySem.W.exm_one J3.kIn LT hb1).here ?_))) (by intro q; cases q)
      cases k with
      | false => exact ih (hno rfl)
      | true =>
        refine codeAny_handlers_suite (HandSPX.lands_againZ fl3 fun h4 fl4 up4 => ?_)
        obtain ⟨oe4, vs4, he4, hz4, hd4⟩ := fl4.there
        have S4 := (J.landed nb fl4.1 ((up.trans up3).trans up4) os ag : Inv X pins σ' H' { s' with heap := h4 }).suite he4 hd4 na nL nF
        refine wpAny_mono ((su a oe4 cls d (X.pn ++ pins) hz4 ⟨_, hd4⟩).run [] _ _ H' _ S4 (hyes rfl a na)) (fun f s6 hsp => ?_) (fun _ _ z => z.elim)
        cases f with
        | next => exact (let ⟨_, _, S6, q6⟩ := hsp; ⟨_, _, S6.unsuite ok, q6⟩)
        | brk => exact (let ⟨_, _, S6, q6⟩ := hsp; ⟨_, _, S6.unsuite ok, q6⟩)
        | cont => exact (let ⟨_, _, S6, q6⟩ := hsp; ⟨_, _, S6.unsuite ok, q6⟩)
        | ret u => exact (let ⟨_, _, _, S6, r6, q6⟩ := hsp; ⟨_, _, _, S6.unsuite ok, r6, q6⟩)
    | @named x n i c ts b sts p1 p2 hs2 l2 hc hi hln su r ih =>
      intro w
      obtain ⟨k, hb1, hyes, hno⟩ := w
      refine wpAny_handleBy_cons (codeAny_handlers_test (look _ _ _ hc _ _ ((PySem.W.exm_one J3.kIn LT hb1).here ?_))) (by intro q; cases q)
      cases k with
      | false => exact ih (hno rfl)
      | true =>
        refine codeAny_handlers_suite_as (HandSPX.lands_againZ fl3 fun h4 fl4 up4 => ?_)
        obtain ⟨oe4, vs4, he4, hz4, hd4⟩ := fl4.there
        have S4 := (J.landed nb fl4.1 ((up.trans up3).trans up4) os ag : Inv X pins σ' H' { s' with heap := h4 }).suite he4 hd4 na nL nF
        refine store_ok (X := X.suite a ((a, oe4) :: (X.pn ++ pins))) (v := .ref a) S4 hN hi (.inl hln) rfl (fun s5 S5 => ?_) (.inr hln)
        refine wpAny_mono ((su a oe4 cls d (X.pn ++ pins) hz4 ⟨_, hd4⟩).run [] s5 _ H' _ S5 (hyes rfl a na)) (fun f s6 hsp => ?_) (fun _ _ z => z.elim)
        have end_ : ∀ {σ6 : L2.St} {H6 : Hp} {Q : Shared → Prop}, Inv (X.suite a ((a, oe4) :: (X.pn ++ pins))) [] σ6 H6 s6 → (∀ s7, Inv X pins (σ6.set i none) H6 s7 → Q s7) → wpAny (model X.prog X.w) X.A (do bindName X.env n .none; unbindBehindTheSuite X.env n p2) (fun _ s7 => Q s7) X.xe s6 :=
          fun S6 hq => gone_ok (S6.unsuite ok) hN hi hln hq
        cases f with
        | next => exact (let ⟨_, _, S6, q6⟩ := hsp; end_ S6 fun s7 J7 => ⟨_, _, J7, q6⟩)
        | brk => exact (let ⟨_, _, S6, q6⟩ := hsp; end_ S6 fun s7 J7 => ⟨_, _, J7, q6⟩)
        | cont => exact (let ⟨_, _, S6, q6⟩ := hsp; end_ S6 fun s7 J7 => ⟨_, _, J7, q6⟩)
        | ret u => exact (let ⟨_, _, _, S6, r6, q6⟩ := hsp; end_ S6 fun s7 J7 => ⟨_, _, _, J7, r6, q6⟩)
end DL

set_option Elab.async false
set_option linter.all false
set_option maxRecDepth 100000
set_option maxHeartbeats 4000000
namespace PySem.W
open PySem PySem.Spec PySem.Calls PyProof.Rows
section
variable {prog : Program} {w : World} {A : Around} {E : Value → Shared → Prop} {s : Shared} {K : Frag} {x D : Addr} {ox : Obj} {od : Option Obj}
theorem dl_clsE {Q : Option Value → Shared → Prop} (T : L2.ExcC K D) (X : K.In s.heap) (I : InstAt s.heap x ox D od) (h : Q (some (.ref D)) { s with toks := s.toks + 1 }) : wpAny (model prog w) A (getAttr? (.ref x) "__class__") Q E s := by
  have hc : (clsIn K D).isSome = true := by obtain ⟨cd, hc, _⟩ := any_some T.hd; rw [hc]; rfl
  have hf : findObj K D od "__class__" = some (.bind (.builtin "getset_descriptor.__get__") (.builtin "object.__class__")) := by
    cases od with
    | none => exact findObj_dataN hc T.ha T.hn T.ht
    | some o => exact findObj_data hc T.ha T.hn T.ht
  obtain ⟨hp, g, d, t, os⟩ := s
  have L0 := I.type (M := model prog w)
  have L1 := looks_findIn (M := model prog w) X T.hg
  have L2' := looks_findIn (M := model prog w) X T.hk
  have L3 := looks_find (M := model prog w) X I hf
  have sb : Looks (model prog w) hp (isInstance (.ref x) (.type "BaseException")) true := L0.andThen (looks_subIn X T.hs)
  have n1 : (Value.builtin "BaseException.__getattribute__" == Value.builtin "object.__getattribute__") = false := by decide +kernel
  have n2 : (onTheHeap (Value.ref D) && Value.builtin "BaseException.__getattribute__" == Value.builtin "object.__getattribute__") = false := by rw [n1]; rfl
  unfold getAttr? getAttrBy? getAttrBy
  refine wpAny_bind (wpAny_mkText (wpAny_bind (wpAny_attempt (wpAny_holding (wpAny_bind (L0.at (wpAny_bind (L1.at ?_))))))))
  show wpAny _ _ (if (onTheHeap (Value.ref D) && Value.builtin "BaseException.__getattribute__" == Value.builtin "object.__getattribute__") = true then _ else _) _ _ _
  rw [n2, if_neg Bool.false_ne_true]
  unfold getAttrByItsOwn hookBefore
  refine wpAny_bind ?_
  rw [if_pos (show onTheHeap (Value.ref D) = true from rfl)]
  refine L2'.at (wpAny_bind (wpAny_attempt (wpAny_holding ?_)))
  unfold callGetattribute
  rw [show (false && onTheHeap (Value.builtin "BaseException.__getattribute__")) = false from rfl, if_neg Bool.false_ne_true]
  unfold boundAndCalled
  rw [PySem.F.excAttr_ValueError.ga.bind (.ref x)]
  refine wpAny_bind (wpAny_pure ?_)
  show wpAny _ _ (call (.builtin "BaseException.__getattribute__") [.ref x, .str "__class__" t]) _ _ _
  refine wpAny_call (codeAny_call_builtin PySem.F.excAttr_ValueError.ga.plain PySem.F.entry_bexc_ga ?_)
  refine @check_slot (model prog w) _ _ ⟨hp, g, d, t + 1, os⟩ "BaseException.__getattribute__" "BaseException" "__getattribute__" (.ref x) [.str "__class__" t] [] _ (by decide +kernel) (by decide +kernel) sb (PySem.F.args_bexc_ga (.ref x) (.str "__class__" t)) ?_
  unfold Builtin.«object.__getattribute__»
  refine wpAny_bind (wpAny_of_eq (a := ((Value.ref x : Value), [Value.str "__class__" t])) (by first | rfl | (simp only [slotArgs]; rfl)) ?_)
  refine wpAny_bind (wpAny_pure (wpAny_bind (L0.at (wpAny_bind (L3.at ?_)))))
  show wpAny _ _ (holding [Value.builtin "object.__class__"] (call (.builtin "getset_descriptor.__get__") [.builtin "object.__class__", .ref x, .ref D]) >>= ret) _ _ _
  refine wpAny_bind (wpAny_holding (wpAny_call (class_get (s := ⟨hp, g, d, t + 1, os⟩) (ox := ox) (od := od) X I T.hm ?_)))
  refine wpAny_pure ?_
  show wpAny _ _ (handedOut (.ref D)) _ _ _
  rw [handedOut_of (v := .ref D) rfl]
  first
    | exact wpAny_pure (wpAny_pure h)
    | exact wpAny_pure h
    | exact wpAny_pure (wpAny_bind (wpAny_pure (wpAny_pure h)))
theorem dl_kitx (T : L2.ExcC K D) : KitX K (.ref x) (.ref D) (fun h => InstAt h x ox D od) where
  ty := fun _ _ _ I => I.type
  it := fun _ _ X _ => by
    obtain ⟨cd, hc, _⟩ := any_some T.hd
    unfold clsIn at hc
    split at hc
    · rename_i ho
      exact fun A' Q' E' s' k q => wpAny_bind (wpAny_loadPart (k _ _ (X _ _ ho)) (wpAny_pure q))
    · cases hc
  ne := fun h tp dd its n sl X htp => Bool.eq_false_iff.mpr fun q => by
    obtain ⟨cd, hc, _⟩ := any_some T.hd
    have e : D = tp := Value.ref.inj (beq_iff_eq.mp q)
    rw [e] at hc
    unfold clsIn at hc
    split at hc
    · rename_i ho
      cases (X _ _ ho).symm.trans htp
    · cases hc
  ca := fun X I k => dl_clsE T X I k
end
end PySem.W
namespace DL
open PySem PySem.Spec PyProof.Rows L2
theorem call_isD {X : Cx} {a D : Addr} {oe : Obj} {d : Option Addr} {pn : List (Addr × Obj)} (C : ExcC X.K D) (hz : Zc (.ref D) d oe) (hf : ∃ vs, oe.data = .fields vs) :
    CallR (X.suite a ((a, oe) :: pn)) (.builtin "isinstance") (fun xs H Q => (∀ dx, d = some dx → ∃ fs, H dx = some (.xd fs)) ∧ rIsE X.K D a xs H Q) := by
  intro pins s σ H xs us Q I r ⟨hd, h⟩
  obtain ⟨c, cv, b, rfl, hcv, e, q⟩ := h
  cases r with
  | cons rx rr =>
    cases rr with
    | cons rt rr =>
      cases rr
      cases rx
      have ec := hcv _ rt
      subst ec
      obtain ⟨hget, _⟩ := I.pin (a, oe) (List.mem_append.mpr (.inl List.mem_cons_self))
      obtain ⟨vs, hv⟩ := hf
      have fin : ∀ tk, EP (X.suite a ((a, oe) :: pn)) pins σ Q (.bool b) { s with toks := tk } := fun tk => ⟨.bl b, H, I.kept (t' := tk) fun _ _ z => z, rfl, q⟩
      cases d with
      | none =>
        have J : PySem.W.InstAt s.heap a oe D none := ⟨hget, hz.1, by unfold PySem.W.notCls; rw [hv] <;> rfl, by rw [hz.2]; exact trivial⟩
        exact PySem.W.kia_one (PySem.W.dl_kitx C) I.kIn J e (fun z => nomatch z) fin
      | some dx =>
        obtain ⟨fs, hfs⟩ := hd dx rfl
        obtain ⟨mA, ⟨o, es, ep, ho, _⟩, _⟩ := (show ObjOk X.prog X.w H s.heap dx (.xd fs) from I.hok dx _ hfs)
        have J : PySem.W.InstAt s.heap a oe D (some o) := ⟨hget, hz.1, by unfold PySem.W.notCls; rw [hv] <;> rfl, by rw [hz.2]; exact ho⟩
        exact PySem.W.kia_one (PySem.W.dl_kitx C) I.kIn J e (fun z => nomatch z) fin
end DL

set_option Elab.async false
set_option linter.all false
set_option maxRecDepth 100000
namespace DL
open PySem PySem.Spec PyProof.Rows L2
open L2.DX (itemsO itemsO_ok)
def startD (n : Nat) (ds : List D) : Sd := ds.map some ++ List.replicate (n - ds.length) none
theorem start_sv {K : PySem.W.Frag} {H : Hp} {m : List Addr} {N : List Str} {vs : List V} {ds : List D} (q : DVs K H m vs ds) (hn : vs.length ≤ N.length) : SV K H m (L2.start N vs) (startD N.length ds) := by
  unfold L2.start startD
  rw [← q.length]
  refine ⟨by simp [q.length], fun i d e => ?_⟩
  by_cases hi : i < vs.length
  · rw [List.getElem?_append_left (by simpa [← q.length] using hi), List.getElem?_map] at e
    rw [List.getElem?_append_left (by simpa using hi), List.getElem?_map]
    cases q1 : ds[i]? with
    | none => rw [q1] at e; cases e
    | some d' =>
      rw [q1] at e
      have e' : d' = d := by simpa using e
      subst e'
      obtain ⟨v, q2, q3⟩ := q.get q1
      exact ⟨v, by rw [q2]; rfl, q3⟩
  · rw [List.getElem?_append_right (by simpa [← q.length] using hi)] at e
    rw [List.getElem?_replicate] at e
    split at e <;> cases e
theorem in2_units {A : Around} : A.in1.in1.units = A.units + 2 := rfl
theorem in2_depth {A : Around} : A.in1.in1.depth = A.depth := rfl
section
variable {P : Program} {w : World} {K : PySem.W.Frag} {mg : Str → Option Value} {base : Heap} {A : Around} {outer : List Env} {s : Shared} {H : Hp} {f c' : Addr} {qual a : Str} {params : Arguments} {body : Expr} {scope : Scope} {N : List Str} {pm ctv u : Value} {x : V} {Q : VK} {E : XK}
/-- a lambda of one parameter is called -/
theorem lam_run (S : FnScope N [a] scope) (hr : Room 1 A) (e0 : Env0 P w K mg base A outer s H) (ho : s.heap.get? f = some (PySem.W.kla_obj "<lambda>" qual params body scope [] pm c' ctv)) (hc : H c' = some (LamX.CodeO c' qual))
    (hb : bindArgs (PySem.W.kla_fn "<lambda>" qual params body scope [] pm (.ref c') ctv) ⟨[u], []⟩ = pure [(a, u)]) (r : RelV x u) (hbody : ∃ t, PE (cxOf (L2.CX P w) P w K mg base N qual scope f (.ref c') A outer s H E) body t ∧ t (L2.start N [x]) H Q) :
    codeAny (model P w) A (.call (.ref f) ⟨[u], []⟩) (CR (L2.CX P w) outer P w H s Q E) s := by
  have lim : s.heap.NoLimit := e0.mod.nolimit.keeps fun b o e => (e0.bs b o e).1
  obtain ⟨⟨oc, vs, t, hoc, hdc, hvc⟩, _, _⟩ := e0.hok c' _ hc
  have hkind : ∀ y ∈ [(a, u)], scope.names.lookup y.1 = some .local ∨ (scope.names.lookup y.1 = some .cell ∧ ((cellsFrom (s.heap.objs.size + 1) scope.names []).lookup y.1).isSome = true) := fun y hy => by
    rw [List.mem_singleton.mp hy]
    rcases S.par a List.mem_cons_self with q | q
    · exact .inl q
    · exact .inr ⟨q, PySem.W.cellsFrom_some _ _ _ (.inl q)⟩
  refine PySem.W.kla_callFunE hr.depth ho rfl S.co S.gen rfl ⟨c', oc, vs, t, rfl, hoc, hdc, hvc⟩ ?_
  rw [hb]
  refine wpAny_pure (wpAny_newFunctionEnv_cells S.kind hkind fun env he s1 x1 => ?_)
  subst he
  refine ⟨lim.keeps x1.toInCall.keep, PySem.W.kla_codeExpr ?_⟩
  obtain ⟨t, ht, hq⟩ := hbody
  have I : Inv (cxOf (L2.CX P w) P w K mg base N qual scope f (.ref c') A outer s H E) [] (L2.start N [x]) H s1 := inv_start S hr.hd e0 rfl (.cons r .nil) x1
  refine wpAny_mono (ht.run [] s1 (L2.start N [x]) H _ I hq) (fun v s' hs => ?_) fun e s' hs => hs
  obtain ⟨w', H', J, rv, q⟩ := hs
  exact ⟨w', H', J.os, J.bare, J.base, J.hok, rv, q⟩
end
section
variable {X : Cx} {c : Ck} {g : Gd} {C : Tab} {W : WX} {k : Nat}
theorem room_in2 {k : Nat} {A : Around} (r : Room (k + 1) A) : Room k A.in1.in1 :=
  ⟨r.hd, by have := r.dp; rw [in2_depth]; omega, by have := r.un; rw [in2_units]; omega⟩
theorem env0_in2 {P : Program} {w : World} {K : PySem.W.Frag} {mg : Str → Option Value} {base : Heap} {A : Around} {outer : List Env} {s : Shared} {H : Hp} (e : Env0 P w K mg base A outer s H) : Env0 P w K mg base A.in1.in1 outer s H :=
  ⟨e.frames, e.mod, e.bs, e.bsz, e.funs, e.frf, e.hok, e.bare⟩
theorem cx_never {P : Program} {w : World} {outer : List Env} {H : Hp} {s s' : Shared} {e : Value} (h : L2.CX P w outer H s (fun _ _ _ => False) e s') : False := by
  obtain ⟨_, _, _, _, _, _, _, _, _, _, _, _, z⟩ := h
  exact z
theorem kcall_def {f : Addr} {fd : FuncData} {ps : List Str} {F : Fn} (Fo : FnOk X.prog X.w X.K X.mg X.base (L2.CX X.prog X.w) k f fd ps (spF g 1 F)) (bd : Binds X.K fd ps []) (hl : ps.length = 1) (hr : Room (k + 1) X.A) : KCall X g (.ref f) [] [] fun d h => F [d] h := by
  intro pins s σ H m h x d u kd h1 _ I rx r _ q e
  refine wpAny_call (codeAny_mono (Fo.run X.A.in1.in1 X.stack s H ⟨[u], []⟩ [u] [x] (fun v H' => ∃ m', Ext H m H' m' ∧ Rel g H' m' h1 ∧ DV g.K H' m' v kd) (fun _ _ _ => False) (room_in2 hr) (env0_in2 I.env0) ?_ (.cons rx .nil) ⟨m, h, [d], r, .cons q .nil, rfl, ?_⟩) fun rr s' hq => ?_)
  · exact bd s [u] I.kIn (by rw [hl]; rfl)
  · show PF g H m _ _ (F [d] h)
    have e' : F [d] h = .ok kd h1 := e
    rw [e']
    exact fun v H' m' x' r' q' => ⟨m', x', r', q'⟩
  · cases rr with
    | error e => exact (cx_never hq).elim
    | ok fl =>
      cases fl with
      | ret u => exact I.after hq
      | next => exact False.elim hq
      | brk => exact False.elim hq
      | cont => exact False.elim hq
/-- a thing that is sorted, as it stands -/
inductive SrcV (g : Gd) (H : Hp) (m : List Addr) (h : Hd) : Bool → V → List D → Prop
  | sq {a : Addr} {xs : List V} {ds : List D} : SqL g.K H a xs ∨ SqT g.K H a xs → DVs g.K H m xs ds → SrcV g H m h false (.ref a) ds
  | it {a b : Addr} {n : Nat} {kvs : List (D × D)} : m[n]? = some b → h[n]? = some (.dct kvs) → H a = some (itemsO a b) → SrcV g H m h true (.ref a) (kvs.map fun p => .tup [p.1, p.2])
/-- the argument of sorted -/
def LSrc (g : Gd) (W : WX) (v : Bool) (fe : Fe) : TE := fun σ H Q => ∃ m τ h, At g σ H m τ h ∧ match fe τ h with
  | .ok d h1 => match srcOf v d h1 with
    | some ds => ∀ x H' m', Ext H m H' m' → Rel g H' m' h1 → SrcV g H' m' h1 v x ds → Q x H'
    | none => False
  | .ex x h1 => ∀ c d H' m', Ext H m H' m' → Rel g H' m' h1 → EV g H' m' x c d → W c d σ H'
  | .bad => False
theorem PE.src0 {e : Expr} {fe : Fe} (he : PE X e (LE g W fe)) : PE X e (LSrc g W false fe) := PE.weak he fun σ H Q ⟨m, τ, h, a, p⟩ => by
  refine ⟨m, τ, h, a, ?_⟩
  cases q : fe τ h with
  | bad => rw [q] at p; exact p.elim
  | ex x h1 => rw [q] at p; exact p
  | ok d h1 =>
    rw [q] at p
    dsimp only at p
    cases e1 : srcOf false d h1 with
    | none => rw [e1] at p; exact p.elim
    | some ds =>
      rw [e1] at p
      intro v H' m' x r qv
      have e2 : seqOf h1 d = some ds := by
        cases d <;> exact e1
      obtain ⟨b, xs, rfl, hs, hd⟩ := seqOf_sq r qv e2
      exact p _ H' m' x r (.sq hs hd)
theorem mt_itemsK : MtR X "dict.items" (fun x xs H Q => ∃ (a : Addr) (ks : List (Key × V)), x = .ref a ∧ xs = [] ∧ H a = some (.dK ks) ∧ ∀ p, H p = none → Q (.ref p) (upd H p (itemsO p a))) := by
  intro pins s σ H x xs v us Q I rx rxs h
  obtain ⟨a, ks, rfl, rfl, ha, q⟩ := h
  cases rx
  cases rxs
  obtain ⟨z, hd, vs, rel, o, es, ep, ho, hx, hdat, _⟩ := dk_of I.hok ha
  refine DT.callItems (es := es) (ep := ep) hd ⟨o, ho, hx, hdat⟩ ?_
  have hf : H s.heap.objs.size = none := I.hok.fresh (Nat.le_refl _)
  exact ⟨.ref s.heap.objs.size, _, I.laid (t' := s.toks) (a := s.heap.objs.size) (o := itemsO s.heap.objs.size a) (fun b u e => Heap.get?_push_of_some _ e) (Nat.le_refl _) (itemsO_ok (Heap.get?_push_size _ rfl)), rfl, q _ hf⟩
theorem itemsO_tbl {p d : Addr} (ps : Array Value) : itemsO p d ≠ .tbl ps := fun z => by cases z
theorem PE.src1 {eo : Expr} {fe : Fe} {ap cp : Pos} (he : PE X eo (LE g W fe)) (hb : plainBase eo = true) (hl : (ap.endLine == cp.line) = true) : PE X (.Call (.Attribute eo "items" ap) [] [] cp) (LSrc g W true fe) := by
  refine PE.weak (pe_bm0 PySem.F.plainAttrs_dict PySem.F.slot_dict_items PySem.F.type_dict_items mt_itemsK he (base_of hb) hl) fun σ H Q ⟨m, τ, h, a, p⟩ => ?_
  refine ⟨m, τ, h, a, ?_⟩
  cases q : fe τ h with
  | bad => rw [q] at p; exact p.elim
  | ex x h1 => rw [q] at p; exact p
  | ok d h1 =>
    rw [q] at p
    dsimp only at p
    intro v H' m' x r qv
    cases d with
    | ref n =>
      cases eh : h1[n]? with
      | none => simp only [srcOf, eh] at p
      | some o =>
        cases o with
        | dct kvs =>
          simp only [srcOf, eh] at p
          cases qv with
          | @ref b _ e1 =>
            obtain ⟨ks, h2, h3⟩ := r.dct e1 eh
            refine ⟨.inr (.inr (.inl ⟨rfl, .inl ⟨_, h2⟩⟩)), _, ks, rfl, rfl, h2, fun pp hp => ?_⟩
            have x2 : Ext H' m' (upd H' pp (itemsO pp b)) m' := .tupNew hp
            exact p _ _ m' (x.trans x2) (r.tupNew hp) (.it e1 eh upd_same)
        | lst ds => simp only [srcOf, eh] at p
        | ins c fs => simp only [srcOf, eh] at p
    | _ => exact p.elim
/-- the items' tuples, tracked -/
def putP (H : Hp) : List Addr → List (List V) → Hp
  | a :: as, x :: xs => fun b => if b = a then some (.tup x) else putP H as xs b
  | _, _ => H
theorem putP_off {b : Addr} {H : Hp} : ∀ {as : List Addr} {xs : List (List V)}, b ∉ as → putP H as xs b = H b
  | [], _, _ => rfl
  | a :: as, [], _ => rfl
  | a :: as, x :: xs, n => by
    show (if b = a then some (.tup x) else putP H as xs b) = H b
    rw [if_neg (fun z : b = a => n (by rw [z]; exact List.mem_cons_self))]
    exact putP_off fun z => n (List.mem_cons_of_mem _ z)
theorem putP_at {H : Hp} : ∀ {as : List Addr} {xs : List (List V)} {i : Nat} {a : Addr} {x : List V}, as.Nodup → as[i]? = some a → xs[i]? = some x → putP H as xs a = some (.tup x)
  | [], _, _, _, _, _, e, _ => by simp at e
  | _ :: _, [], _, _, _, _, _, e => by simp at e
  | b :: as, y :: xs, 0, a, x, _, e1, e2 => by
    simp at e1 e2
    subst e1 e2
    exact if_pos rfl
  | b :: as, y :: xs, i + 1, a, x, n, e1, e2 => by
    have hm : a ∈ as := List.mem_of_getElem? (by simpa using e1)
    show (if a = b then some (.tup y) else putP H as xs a) = _
    rw [if_neg (fun z : a = b => (List.nodup_cons.mp n).1 (by rw [← z]; exact hm))]
    exact putP_at (List.nodup_cons.mp n).2 (by simpa using e1) (by simpa using e2)
theorem pairs_at {P : Program} {w : World} : ∀ {es : List DictEntry} {vs : List (Key × Value)} {i : Nat} {e : DictEntry}, Pairs (mixKind P w) es vs → es[i]? = some e → ∃ q, vs[i]? = some q ∧ keyIs q.1 e.key = true ∧ e.val = q.2
  | _, _, _, _, .nil, h => by simp at h
  | _, _, 0, _, .cons (kv := kv) h1 h2 _, h => by
    simp at h
    subst h
    exact ⟨kv, rfl, h1, h2⟩
  | _, _, i + 1, _, .cons _ _ t, h => by
    obtain ⟨q, h1, h2⟩ := pairs_at (i := i) t (by simpa using h)
    exact ⟨q, by simpa using h1, h2⟩
theorem paired_ix {α β : Type} {F : α → β → Prop} : ∀ {xs : List α} {ys : List β} {i : Nat} {y : β}, Paired F xs ys → ys[i]? = some y → ∃ x, xs[i]? = some x ∧ F x y
  | _, _, _, _, .nil, h => by simp at h
  | _, _, 0, _, .cons r _, h => by simp at h; subst h; exact ⟨_, rfl, r⟩
  | _, _, i + 1, _, .cons _ t, h => by
    obtain ⟨x, h1, h2⟩ := paired_ix (i := i) t (by simpa using h)
    exact ⟨x, by simpa using h1, h2⟩
theorem KR.at {K : PySem.W.Frag} {H : Hp} {m : List Addr} : ∀ {ks : List (Key × V)} {kvs : List (D × D)} {i : Nat} {p : Key × V}, KR K H m ks kvs → ks[i]? = some p → ∃ d, kvs[i]? = some (kD p.1, d) ∧ DV K H m p.2 d
  | _, _, _, _, .nil, h => by simp at h
  | _, _, 0, _, .cons r _, h => by simp at h; subst h; exact ⟨_, rfl, r⟩
  | _, _, i + 1, _, .cons _ t, h => by
    obtain ⟨d, h1, h2⟩ := KR.at (i := i) t (by simpa using h)
    exact ⟨d, by simpa using h1, h2⟩
theorem dv_key {K : PySem.W.Frag} {H : Hp} {m : List Addr} (k : Key) : DV K H m (kV k) (kD k) := by cases k <;> first | exact .int _ | exact .str _
theorem pairs_len {P : Program} {w : World} : ∀ {es : List DictEntry} {vs : List (Key × Value)}, Pairs (mixKind P w) es vs → es.length = vs.length
  | _, _, .nil => rfl
  | _, _, .cons _ _ t => congrArg (· + 1) (pairs_len t)
theorem src_items {pins : List (Addr × Obj)} {s : Shared} {σ : L2.St} {H : Hp} {m : List Addr} {h : Hd} {a b : Addr} {n : Nat} {kvs : List (D × D)} (I : Inv X pins σ H s) (e1 : m[n]? = some b) (e2 : h[n]? = some (.dct kvs)) (ea : H a = some (itemsO a b)) (r : Rel g H m h) :
    Src X g pins s σ H m h (.ref a) (kvs.map fun p => .tup [p.1, p.2]) := fun A' E' Q' hh hq => by
  obtain ⟨ks, h1, h2⟩ := r.dct e1 e2
  obtain ⟨z, hd, vs, rel, o, es, ep, ho, hx, hdat, hkk, hpp, hnd⟩ := dk_of I.hok h1
  have hv : s.heap.IsItemsView a b := (I.hok a _ ea).1
  have lz : es.size = ks.length := by
    have e3 := pairs_len hpp
    rw [Array.length_toList] at e3
    rw [e3]; exact (Paired.length rel).symm
  refine DT.collectI (es := es) (ep := ep) hh hv ⟨o, ho, hx, hdat⟩ (by rw [lz]; exact z) fun h' tk as k lt hl M => ?_
  have nd : as.Nodup := List.Pairwise.imp (fun {a b} (h : a < b) => Nat.ne_of_lt h) M.rise
  have new : ∀ t ∈ as, H t = none := fun t ht => I.hok.fresh (Nat.le_of_lt (M.above t ht))
  have low : ∀ c u, s.heap.get? c = some u → c ∉ as := fun c u q w => Nat.lt_irrefl _ (Nat.lt_trans (Heap.lt_size q) (M.above c w))
  have kp : ∀ c u, H c = some u → putP H as (ks.map fun p : Key × V => [kV p.1, p.2]) c = some u := fun c u q => by
    rw [putP_off fun w => by rw [new c w] at q; cases q]; exact q
  have each : ∀ i t, as[i]? = some t → ∃ (p : Key × V) (d : D) (kv x : Value), ks[i]? = some p ∧ kvs[i]? = some (kD p.1, d) ∧ DV g.K H m p.2 d ∧ putP H as (ks.map fun p : Key × V => [kV p.1, p.2]) t = some (.tup [kV p.1, p.2]) ∧ RelV (kV p.1) kv ∧ RelV p.2 x ∧ h'.get? t = some { cls := .type "tuple", data := .seq #[kv, x] } := fun i t ht => by
    obtain ⟨en, q1, q2⟩ := M.pairs i t ht
    obtain ⟨q, q3, q4, q5⟩ := pairs_at hpp (show es.toList[i]? = some en by rw [Array.getElem?_toList]; exact q1)
    obtain ⟨p, q6, q7, q8⟩ := paired_ix rel q3
    obtain ⟨d, q9, q10⟩ := h2.at q6
    refine ⟨p, d, en.key, en.val, q6, q9, q10, putP_at nd ht (by rw [List.getElem?_map, q6]; rfl), ?_, by rw [q5]; exact q8, q2⟩
    rw [q7]; exact relV_key q4
  have hn : ∀ c u, s.heap.get? c = some u → putP H as (ks.map fun p : Key × V => [kV p.1, p.2]) c = H c := fun c u q => putP_off (low c u q)
  have I' : Inv X pins σ (putP H as (ks.map fun p : Key × V => [kV p.1, p.2])) { s with heap := h', toks := tk } := by
    refine I.call' (ch := []) rfl ⟨fun b o q _ _ _ => k b o q, fun b o q _ _ _ => ⟨o.slots, k b o q⟩, fun b o q n _ => by rw [hn b o q]; exact n, fun b o q _ => ⟨o, k b o q⟩, fun b xs q => kp b _ q, fun b o u q => kp b _ q, fun b ps q => ⟨#[], by rw [kp b _ q]; simp⟩⟩ (fun b u q => ?_) I.bare fun b z => by simp at z
    by_cases hb : b ∈ as
    · obtain ⟨i, hi, e⟩ := List.getElem_of_mem hb
      obtain ⟨p, d, kv, x, _, _, _, p4, p5, p6, p7⟩ := each i b (by rw [List.getElem?_eq_getElem hi, e])
      rw [p4] at q
      cases q
      exact ⟨by show 2 ≤ sizeLine; decide, [kv, x], .cons p5 (.cons p6 .nil), ⟨_, p7, rfl, _, rfl⟩⟩
    · rw [putP_off hb] at q
      exact (I.hok b u q).stay (fun d v _ y => k d v y) (fun d y => kp d _ y) fun d xs y => kp d _ y
  have x1 : Ext H m (putP H as (ks.map fun p : Key × V => [kV p.1, p.2])) m := ⟨⟨[], by simp, fun _ z => nomatch z⟩, fun c o _ q _ => kp c o q⟩
  have r1 : Rel g (putP H as (ks.map fun p : Key × V => [kV p.1, p.2])) m h := ⟨r.len, r.nd, fun n a o e1 e2 => by
    have x := r.obj n a o e1 e2
    obtain ⟨u, e3, _⟩ := x.some
    exact x.stay (r.stay x1) ((kp a u e3).trans e3.symm), fun x hx => by
    obtain ⟨ps, q1, q2, q3⟩ := r.tabs x hx
    exact ⟨ps, kp _ _ q1, q2, fun pos cv hc => let ⟨c, q4, q5⟩ := q3 pos cv hc; ⟨c, q4, kp _ _ q5⟩⟩⟩
  have vr : ∀ l : List Addr, Vals (l.map V.ref) (l.map Value.ref) := fun l => by
    induction l with
    | nil => exact .nil
    | cons a l ih => exact .cons rfl ih
  refine hq h' tk _ (as.map V.ref) (as.map Value.ref) I' x1 r1 (vr as) (DVs.nth (by rw [List.length_map, List.length_map, hl, lz, h2.length]) fun i v d q1 q2 => ?_)
  rw [List.getElem?_map] at q1 q2
  cases qa : as[i]? with
  | none => rw [qa] at q1; cases q1
  | some t =>
    rw [qa] at q1
    cases q1
    obtain ⟨p, d', kv, x, p1, p2, p3, p4, _⟩ := each i t qa
    rw [p2] at q2
    cases q2
    exact .tup (.inl (.inl p4)) (.cons (dv_key _) (.cons (p3.stay (r.stay x1)) .nil))
theorem sortR_post {v : Bool} {F : D → Hd → Res D} {σ : L2.St} {H : Hp} {m : List Addr} {h : Hd} {d : D} {Q : VK} {ds : List D} (e : srcOf v d h = some ds) (p : Post g W σ H m (DV g.K) Q (sortR v F d h)) :
    ∃ ks h1, ds.length ≤ sizeLine ∧ keysL F ds h = .ok ks h1 ∧ SortsOk ks ∧
      ∀ H' m' p ys, Ext H m H' m' → Rel g H' m' h1 → H' p = none → DVs g.K H' m' ys (sortB (ds.zip ks)) → Q (.ref p) (upd H' p (.lst ys)) := by
  unfold sortR at p
  rw [e] at p
  dsimp only at p
  split at p
  · rename_i hl
    cases e2 : keysL F ds h with
    | ex x h1 => rw [e2] at p; exact p.elim
    | bad => rw [e2] at p; exact p.elim
    | ok ks h1 =>
      rw [e2] at p
      have p' : Post g W σ H m (DV g.K) Q (open Classical in if SortsOk ks then .ok (.ref h1.length) (h1 ++ [.lst (sortB (ds.zip ks))]) else .bad) := p
      by_cases so : SortsOk ks
      · rw [if_pos so] at p'
        refine ⟨ks, h1, hl, rfl, so, fun H' m' p ys x' r' hp hy => ?_⟩
        exact p' (.ref p) _ _ (x'.trans (.new hp (r'.notin hp))) (r'.new hp (newLst r' hp hy)) (.ref (by rw [← r'.len]; simp))
      · rw [if_neg so] at p'; exact p'.elim
  · exact p.elim
theorem key_name : ((Str.ofString "key") : Str) = ("key" : Str) := rfl
/-- sorted(e, key=ke) -/
theorem pe_sorted {v : Bool} {fe : Fe} {F : D → Hd → Res D} {e ke : Expr} {p kp pos : Pos} (hK : X.K = g.K) (hr : Room (k + 2) X.A) (hg : Gl X "sorted") (hm : X.mg "sorted" = none) (he : PE X e (LSrc g W v fe)) (ns : notStar e = true)
    (hk : ∀ (pins : List (Addr × Obj)) (s : Shared) (σ : L2.St) (H : Hp) (m : List Addr) (h : Hd) (Q : Value → Shared → Prop), Inv X pins σ H s → Rel g H m h →
      (∀ (f : Addr) (pins0 : List (Addr × Obj)) (live : List (Addr × HO)) (s2 : Shared) (H2 : Hp), Inv X (pins0 ++ pins) σ H2 s2 → Ext H m H2 m → LamX.ExtN H H2 → Rel g H2 m h → Live live H2 m → KCall X g (.ref f) pins0 live F → Q (.ref f) s2) →
      wpAny (model X.prog X.w) X.A (eval ke X.env) Q X.xe s) :
    PE X (.Call (.Name "sorted" p) [e] [⟨some "key", ke, kp⟩] pos) (LE g W fun τ h => (fe τ h).bind fun x h1 => sortR v F x h1) := by
  refine ⟨fun pins s σ H Q I hle => ?_⟩
  obtain ⟨m, τ, h, a, hp⟩ := hle
  refine wpAny_Call_Name_kw (ld_blt I hg hm (by decide +kernel : bootBuiltins "sorted" = some (.builtin "sorted")) ?_ (by decide) (by decide))
  have hsrc : LSrc g W v fe σ H (fun x H1 => ∃ m1 h1 d ds, At g σ H1 m1 τ h1 ∧ srcOf v d h1 = some ds ∧ SrcV g H1 m1 h1 v x ds ∧ Post g W σ H1 m1 (DV g.K) Q (sortR v F d h1)) := by
    refine ⟨m, τ, h, a, ?_⟩
    dsimp only at hp
    cases q : fe τ h with
    | bad => rw [q] at hp; exact hp.elim
    | ex x h1 => rw [q] at hp; exact hp
    | ok d h1 =>
      rw [q, Res.bind_ok] at hp
      dsimp only
      cases e1 : srcOf v d h1 with
      | none => unfold sortR at hp; rw [e1] at hp; exact hp.elim
      | some ds => exact fun x H' m' x' r' sv => ⟨m', h1, d, ds, a.ext x' r', e1, sv, hp.ext x'⟩
  have he' := (pa_cons he pa_nil (star_of ns)).run pos pins s σ H (fun vs H1 => ∃ x, vs = [x] ∧ ∃ m1 h1 d ds, At g σ H1 m1 τ h1 ∧ srcOf v d h1 = some ds ∧ SrcV g H1 m1 h1 v x ds ∧ Post g W σ H1 m1 (DV g.K) Q (sortR v F d h1)) I
    (by
      obtain ⟨m', τ', h', a', p'⟩ := hsrc
      refine ⟨m', τ', h', a', ?_⟩
      revert p'
      cases fe τ' h' with
      | bad => exact id
      | ex x h1 => exact id
      | ok d h1 =>
        dsimp only
        cases srcOf v d h1 with
        | none => exact id
        | some ds => exact fun p' x H' m' x' r' sv => ⟨x, rfl, p' x H' m' x' r' sv⟩)
  refine PyProof.Rows.callWith_kw (thn he' fun us s1 ⟨vs, H1, I1, r1, q1⟩ => ?_) (by rw [star_of ns]; rfl) (by rw [star_of ns]; rfl)
  obtain ⟨x, rfl, m1, h1, d, ds, a1, e1, sv, p1⟩ := q1
  obtain ⟨ks, h2, hl, ek, so, fin⟩ := sortR_post e1 p1
  obtain ⟨la, rfl⟩ : ∃ la, x = .ref la := by cases sv <;> exact ⟨_, rfl⟩
  obtain rfl := Vals.ref1 r1
  show wpAny _ _ (evalAll [do let v ← eval ke X.env; standAt pos; pure v]) _ _ s1
  refine wpAny_evalAll_cons (wpAny_bind (hk pins s1 σ H1 m1 h1 _ I1 a1.rel fun f pins0 live s2 H2 I2 x2 n2 r2 lv kc => wpAny_bind (wpAny_standAt (wpAny_pure (wpAny_evalAll_nil ?_)))))
  have st := a1.rel.stay x2
  have sr : Src X g (pins0 ++ pins) s2 σ H2 m1 h1 (.ref la) ds := by
    cases sv with
    | sq hs hd =>
      refine src_sq hK I2 ?_ r2 (hd.stay st)
      rw [hK]
      rcases hs with hs | hs
      · rcases hs with (q | ⟨o, q⟩) | q
        · exact .inl (.inl (.inl (n2 _ _ q fun _ z => nomatch z)))
        · exact .inl (.inl (.inr ⟨o, n2 _ _ q fun _ z => nomatch z⟩))
        · exact .inl (.inr q)
      · exact .inr (st.tup _ _ hs)
    | it h1 h2 h3 => exact src_items I2 h1 h2 (n2 _ _ h3 fun ps => itemsO_tbl ps) r2
  refine wpAny_mono (sort_run (pins := pins0 ++ pins) hK (by have := hr.un; omega) hr.hd kc (fun z hz => List.mem_append_left _ hz) hl sr lv ek so _ (PyProof.Rows.ksk_s1 _ _) (fun _ => PyProof.Rows.ksk_l1 _ _) (fun x => PyProof.Rows.ksk_t1 _ _) fun H' m' p ys x' r' hp hy => fin H' m' p ys (x2.trans x') r' hp hy) (fun u s3 hq => ?_) fun _ _ z => z
  obtain ⟨v', H3, I3, rv, q3⟩ := hq
  exact ⟨v', H3, Inv.unpin I3 fun z hz => List.mem_append_right _ hz, rv, q3⟩
/-- key=f, f a def -/
theorem k_def {F : Fn} {y : Str} {kp : Pos} {f : Addr} {fd : FuncData} {ps : List Str} (hr : Room (k + 2) X.A) (Fo : FnOk X.prog X.w X.K X.mg X.base (L2.CX X.prog X.w) k f fd ps (spF g 1 F)) (bd : Binds X.K fd ps []) (hl : ps.length = 1) (hgy : Gl X y) (hmy : X.mg y = some (.ref f)) (hdb : (y == ("__debug__" : Str)) = false)
    (pins : List (Addr × Obj)) (s : Shared) (σ : L2.St) (H : Hp) (m : List Addr) (h : Hd) (Q : Value → Shared → Prop) (I : Inv X pins σ H s) (r : Rel g H m h)
    (q : ∀ (f : Addr) (pins0 : List (Addr × Obj)) (live : List (Addr × HO)) (s2 : Shared) (H2 : Hp), Inv X (pins0 ++ pins) σ H2 s2 → Ext H m H2 m → LamX.ExtN H H2 → Rel g H2 m h → Live live H2 m → KCall X g (.ref f) pins0 live (fun d h => F [d] h) → Q (.ref f) s2) :
    wpAny (model X.prog X.w) X.A (eval (.Name y kp) X.env) Q X.xe s :=
  ld_glob I hgy hmy (q f [] [] s H I .refl (.refl H) r (fun _ z => nomatch z) (kcall_def Fo bd hl (hr.mono (by omega)))) hdb
theorem cloFrom_nil {cells : List (Str × Addr)} {names : List (Str × NameKind)} (h : ∀ y ∈ names, y.2 ≠ .free) : cloFrom cells names [] = [] := by
  cases q : cloFrom cells names [] with
  | nil => rfl
  | cons p l =>
    obtain ⟨n, cc⟩ := p
    rcases cloFrom_mem (cells := cells) (names := names) (acc := []) (n := n) (c := cc) (by rw [q]; exact List.mem_cons_self) with z | z
    · cases z
    · exact absurd rfl (h _ z.1)
theorem bind_one (a q : Str) (ap : Pos) (body : Expr) (scope : Scope) (pm c ct u : Value) : bindArgs (PySem.W.kla_fn "<lambda>" q ⟨[], [⟨a, none, ap⟩], none, [], [], none, []⟩ body scope [] pm c ct) ⟨[u], []⟩ = pure [(a, u)] := by
  have e : List.lookup a [(a, u)] = some u := by simp
  unfold bindArgs
  simp [e, seqItems?]
  rfl
/-- key=lambda a: body -/
theorem k_lam {a : Str} {params : Arguments} {body : Expr} {scope : Scope} {lp : Pos} {fb : Fe} (ok : XOk X c g C W k) (hlam : c.lam = true) (hpar : lamPar params = some a) (S : FnScope [a] [a] scope)
    (hbody : ∀ (X' : Cx) (W' : WX), XOk X' (c.lamC a scope) g C W' 0 → PE X' body (LE g W' fb))
    (pins : List (Addr × Obj)) (s : Shared) (σ : L2.St) (H : Hp) (m : List Addr) (h : Hd) (Q : Value → Shared → Prop) (I : Inv X pins σ H s) (r : Rel g H m h)
    (q : ∀ (f : Addr) (pins0 : List (Addr × Obj)) (live : List (Addr × HO)) (s2 : Shared) (H2 : Hp), Inv X (pins0 ++ pins) σ H2 s2 → Ext H m H2 m → LamX.ExtN H H2 → Rel g H2 m h → Live live H2 m → KCall X g (.ref f) pins0 live (fun d h => fb [some d] h) → Q (.ref f) s2) :
    wpAny (model X.prog X.w) X.A (eval (.Lambda params body scope lp) X.env) Q X.xe s := by
  obtain ⟨k1, cc, P, hcode, TB, hmT, hu⟩ := ok.lam hlam
  have hnil : cloFrom X.env.cells scope.names [] = [] := cloFrom_nil S.nofree
  obtain ⟨ap, rfl⟩ : ∃ ap, params = ⟨[], [⟨a, none, ap⟩], none, [], [], none, []⟩ := by
    unfold lamPar at hpar
    split at hpar
    · rename_i ap
      cases hpar
      exact ⟨_, rfl⟩
    · cases hpar
  refine LamX.lam_make2 I TB hcode hmT hu r.tabs (by rfl) (fun y hy e => absurd e (S.nofree y hy)) fun f c' pm ctv H1 s' I1 eN T1 hf hfn hfr hco => ?_
  rw [hnil] at hf
  have nc : c' ∉ m := fun z => by
    obtain ⟨n, o, e1, e2, x⟩ := r.mem z
    obtain ⟨u, e3, _, _, n1, n2⟩ := x.some
    have e4 := eN c' u e3 n1
    rw [hco] at e4
    cases e4
    exact n2 _ rfl
  have x1 : Ext H m H1 m := ⟨⟨[], by simp, fun _ z => nomatch z⟩, fun a o _ e t => eN a o e t⟩
  have r1 : Rel g H1 m h := ⟨r.len, r.nd, fun n a o e1 e2 => by
    have x := r.obj n a o e1 e2
    obtain ⟨u, e3, _, _, n1, _⟩ := x.some
    exact x.stay (r.stay x1) ((eN a u e3 n1).trans e3.symm), T1⟩
  have nloc : f ≠ X.env.locals := fun z => by
    obtain ⟨mm, ⟨o, es, ep, e, d, _⟩, _⟩ := I1.loc
    rw [← z, hf] at e
    cases e
    cases d
  have nfs : f ∉ X.fs := fun z => by
    rcases I1.ok.stk with e | ⟨e, _⟩
    · rw [e] at hfr; exact hfr z
    · rw [e] at hfr
      refine hfr ?_
      have z' : f ∈ X.outer.filterMap (·.frame) := z
      obtain ⟨en, h1, h2⟩ := List.mem_filterMap.mp z'
      exact List.mem_filterMap.mpr ⟨en, List.mem_cons_of_mem _ h1, h2⟩
  have I2 : Inv X ([(f, PySem.W.kla_obj "<lambda>" (X.env.qual ++ "<lambda>") ⟨[], [⟨a, none, ap⟩], none, [], [], none, []⟩ body scope [] pm c' ctv)] ++ pins) σ H1 s' := by
    refine ⟨I1.ok, I1.os, I1.bare, I1.base, I1.loc, I1.cell, I1.free, I1.freeC, fun p z => ?_, I1.hok, I1.len⟩
    rcases List.mem_append.mp z with z | z
    · exact I1.pin p (List.mem_append_left _ z)
    · rcases List.mem_append.mp z with z | z
      · rw [List.mem_singleton.mp z]
        exact ⟨hf, hfn, nloc, nfs, fun v z => nomatch z⟩
      · exact I1.pin p (List.mem_append_right _ z)
  refine q f _ [(c', LamX.CodeO c' (X.env.qual ++ "<lambda>"))] s' H1 I2 x1 eN r1 (fun p hp => by
    rw [List.mem_singleton.mp hp]
    exact ⟨hco, nc, fun ps z => LamX.codeO_ne ps z⟩) ?_
  intro pins2 s2 σ2 H2 m2 h2 x d u kd h3 hsub J rx r2 lv q2 e
  have hf2 := (J.pin _ (List.mem_append_right _ (hsub List.mem_cons_self))).1
  have hc2 := (lv _ List.mem_cons_self).1
  refine wpAny_call (codeAny_mono (lam_run (P := X.prog) (w := X.w) (K := X.K) (mg := X.mg) (base := X.base) (A := X.A.in1.in1) (outer := X.stack) (Q := fun v H' => ∃ m', Ext H2 m2 H' m' ∧ Rel g H' m' h3 ∧ DV g.K H' m' v kd) (E := fun _ _ _ => False) S ((room_in2 ok.room).mono (by omega)) (env0_in2 J.env0) hf2 hc2 (bind_one _ _ _ _ _ _ _ _ _) rx ⟨_, hbody _ (fun cls d _ H => False) ?_, ?_⟩) fun rr s' hq => ?_)
  · have rm := ok.room
    exact {
      N := rfl
      nd := S.nd
      sc := rfl
      kind := S.kind
      ckind := S.kind
      K := ok.K
      calm := rfl
      cells := fun _ _ => rfl
      free := ok.free
      fns := fun f x n z => by cases (show ([] : List (Nat × (Str × Nat))).lookup f = some (x, n) from z)
      room := ⟨rm.hd, by have := rm.dp; show X.A.depth + 1 + 3 * (0 + 3) + 5 < _; omega, by have := rm.un; show X.A.units + 2 + 3 + 16 * (0 + 3) + 200 < _; omega⟩
      lam := fun z => nomatch z
      takes := takes_of rfl rfl rfl rfl
      own := passes_of rfl
      gf := ok.gf }
  · have e' : fb [some d] h2 = .ok kd h3 := e
    refine ⟨m2, [some d], h2, ⟨r2, ?_⟩, ?_⟩
    · exact start_sv (N := [a]) (DVs.cons q2 .nil) (Nat.le_refl _)
    · rw [e']
      exact fun v H' m' x' r' q' => ⟨m', x', r', q'⟩
  · cases rr with
    | error e => exact (cx_never hq).elim
    | ok fl =>
      cases fl with
      | ret u => exact J.after hq
      | next => exact False.elim hq
      | brk => exact False.elim hq
      | cont => exact False.elim hq
end
end DL

set_option Elab.async false
set_option linter.all false
set_option maxRecDepth 100000
namespace PySem
open Sem (wp)
set_option maxHeartbeats 1000000 in
theorem dl_meets_enum1 {v : Value} {o : Obj} {H : Heap → Prop} (B : Begins v o H) :
    Meets (Builtin.«enumerate.__new__» ⟨[.type "enumerate", v], []⟩) (fun _ R s => H s.heap ∧
      R (.ok (.ret (.ref (s.heap.push o).objs.size))) { s with heap := (s.heap.push o).push { cls := .type "enumerate", data := .fields #[.none, .bool false, .ref s.heap.objs.size, rawInt 0, .none, .none] } }) :=
  .of_wp fun prog w A R s h => by
    obtain ⟨hp, g, d, tk, os⟩ := s; obtain ⟨h1, h⟩ := h
    have hsub := sub_enumerate
    have q1 : ∀ {A' : Around} {E : Value → Shared → Prop} {Q : Value → Shared → Prop}, Q (.ref hp.objs.size) ⟨hp.push o, g, d, tk, os⟩ → wpAny (model prog w) A' (pyIter v) Q E ⟨hp, g, d, tk, os⟩ :=
      fun q => B.iter prog w _ _ ⟨hp, g, d, tk, os⟩ _ h1 q
    wp_walk using q1
    refine wpAny_stack_any fun st => wpAny_pure ?_
    split
    · rename_i c _ _ _ _ _
      cases (c == Value.type "enumerate")
      · wp_walk using q1
        exact ⟨_, rfl, h⟩
      · wp_walk using q1
        exact ⟨_, rfl, h⟩
    · wp_walk using q1
      exact ⟨_, rfl, h⟩
theorem dl_call_enum1 {prog : Program} {w : World} {A : Around} {E : Value → Shared → Prop} {s : Shared} {v : Value} {o : Obj} {H : Heap → Prop} {Q : Value → Shared → Prop} (B : Begins v o H) (h1 : H s.heap)
    (h : ∀ h', IsEnum h' (s.heap.objs.size + 1) s.heap.objs.size 0 .none → h'.get? s.heap.objs.size = some o → h'.objs.size = s.heap.objs.size + 2 →
      (∀ b o, s.heap.get? b = some o → h'.get? b = some o) → Q (.ref (s.heap.objs.size + 1)) { s with heap := h' }) :
    wpAny (model prog w) A (call (.type "enumerate") [v]) Q E s := by
  refine callType_new F.called_enumerate (by decide) (F.typeCall_enumerate_1 _) (F.newCall_enumerate_1 _) (fun obj => F.args_object_init_2 obj _) F.entry_enumerate_new
    (dl_meets_enum1 B) ⟨h1, ?_⟩
  have hz : (s.heap.push o).objs.size = s.heap.objs.size + 1 := Heap.size_push ..
  show _ ∧ _
  rw [hz]
  have he : IsEnum ((s.heap.push o).push { cls := .type "enumerate", data := .fields #[.none, .bool false, .ref s.heap.objs.size, rawInt 0, .none, .none] }) (s.heap.objs.size + 1) s.heap.objs.size 0 .none := by
    have := Heap.get?_push_size (s.heap.push o) (o := { cls := .type "enumerate", data := .fields #[.none, .bool false, .ref s.heap.objs.size, rawInt 0, .none, .none] }) rfl
    rw [hz] at this; exact this
  refine ⟨⟨_, he, rfl⟩, h _ he (Heap.get?_push_of_some _ (Heap.get?_push_size _ B.free)) (by rw [Heap.size_push, hz]) fun b o x => Heap.get?_push_of_some _ (Heap.get?_push_of_some _ x)⟩
end PySem
namespace DL
open PySem PySem.Spec PyProof.Rows L2

/-- enumerate over the tuple at a -/
def IteT (K : PySem.W.Frag) (a : Addr) : It :=
  ⟨fun i H => ∃ (xs : List V) (x : V), SqT K H a xs ∧ xs[i]? = some x, fun i H v H' => ∃ T x, v = .ref T ∧ H T = none ∧ H' = upd H T (.tup [.int (i : Nat), x]) ∧ ∀ xs, SqT K H a xs → xs[i]? = some x, fun i H => ∃ xs : List V, SqT K H a xs ∧ xs.length ≤ i⟩
theorem tup_size {h : Heap} {a : Addr} {its : Array Value} {o : Obj} (e : h.get? a = some o) : a < h.objs.size := Heap.lt_size e
theorem turn_enumT {P : Program} {w : World} {K : PySem.W.Frag} {elts : List Expr} {kk : Nat} {tpos : Pos} (a e it : Addr) :
    Turn P w K (.Tuple elts kk tpos) (IteT K a) [e, it] e (fun i h => (∃ old, IsEnum h e it ((i : Nat) : Int) old) ∧ h.IsTupleIter it a i ∧ e ≠ it ∧ a ≠ e ∧ a ≠ it) where
  mem := by simp
  obj := fun i h st b hb => by
    obtain ⟨⟨old, he⟩, ⟨o, ho, hc, hd⟩, _⟩ := st
    have e' : b = e ∨ b = it := by simpa using hb
    rcases e' with z | z
    · rw [z]; exact ⟨_, he, fun v q => nomatch q⟩
    · rw [z]; exact ⟨o, ho, fun v q => by rw [hd] at q; cases q⟩
  keep := fun i h h' st k => let ⟨⟨old, he⟩, hi, hne⟩ := st; ⟨⟨old, k e (by simp) _ he⟩, hi.at fun o q => k it (by simp) o q, hne⟩
  item := by
    intro X hP hw hK hc i pins s σ H E I hf st hg
    subst hP hw hK
    obtain ⟨⟨old, he⟩, hit, hne, hae, hai⟩ := st
    obtain ⟨xs, x, hq, hx⟩ := hg
    obtain ⟨its, rv, p, hz⟩ := I.tuple hq
    obtain ⟨u, hu, ru⟩ := rv.get hx
    have hel : e < s.heap.objs.size := Heap.lt_size he
    have hil : it < s.heap.objs.size := by obtain ⟨_, q, _⟩ := hit; exact Heap.lt_size q
    have D := Draws.tuple (prog := X.prog) (w := X.w) (A := X.A.in1) (I.ok.hd hc) it a hai its.toArray
    have hlt : i < its.toArray.size := by
      have := (List.getElem?_eq_some_iff.mp hu).1
      simpa using this
    refine wpAny_pyNext_enum_itemC D he ⟨hit, p⟩ hlt hne (by simp only [List.mem_cons, List.not_mem_nil, or_false, not_or]; exact ⟨hne, Ne.symm hae⟩) fun x' h' tk hP ho hst hT hsz hk => ?_
    have ex : x' = u := by
      have e1 : its.toArray[i]? = some u := by simpa using hu
      rw [e1] at hP; exact (Option.some.inj hP).symm
    subst ex
    refine ⟨_, rfl, wpAny_letOwnedTupleGo_enum (s := { s with heap := h', toks := tk + 1 }) ho fun h'' he' sb => ?_⟩
    have hT2 : h''.get? s.heap.objs.size = some { cls := .type "tuple", data := .seq #[.int i tk, x'] } := (sb.2 _ (Nat.ne_of_gt hel)).trans hT
    have new : ObjOk X.prog X.w (upd H s.heap.objs.size (.tup [.int (i : Nat), x])) h'' s.heap.objs.size (.tup [.int (i : Nat), x]) :=
      ⟨by show 2 ≤ sizeLine; decide, [.int i tk, x'], .cons ⟨_, rfl⟩ (.cons ru .nil), ⟨_, hT2, rfl, _, rfl⟩⟩
    have I1 : Inv X pins σ (upd H s.heap.objs.size (.tup [.int (i : Nat), x])) { s with heap := h'', toks := tk + 1 } :=
      I.turnedNew (ch := [e, it]) (fun b ob hb q => (sb.2 b (fun z => hb (by simp [z]))).trans (hk b ob (fun z => hb (by simp [z])) (fun z => hb (by simp [z])) q)) hf (Nat.le_refl _) new
    refine ⟨.ref s.heap.objs.size, _, I1, rfl, ⟨_, x, rfl, I.hok.fresh (Nat.le_refl _), rfl, fun ys hy => by rw [I.tuple_inj hy hq]; exact hx⟩, ⟨⟨x', ?_⟩, hst.1.at fun o q => (sb.2 it (Ne.symm hne)).trans q, hne, hae, hai⟩, fun b hb => ?_⟩
    · have e1 : ((i + 1 : Nat) : Int) = (i : Int) + 1 := by omega
      rw [e1]; exact he'
    · have hb' : b < s.heap.objs.size := by
        have e' : b = e ∨ b = it := by simpa using hb
        rcases e' with z | z
        · rw [z]; exact hel
        · rw [z]; exact hil
      rw [upd_ne (Nat.ne_of_lt hb')]
      exact (hf b hb).1
  done := by
    intro X hP hw hK hc i pins s σ H E I hf st hg
    subst hP hw hK
    obtain ⟨⟨old, he⟩, hit, hne, hae, hai⟩ := st
    obtain ⟨xs, hq, hx⟩ := hg
    obtain ⟨its, rv, p, hz⟩ := I.tuple hq
    obtain ⟨f0, f1, f2, f3, f4, f5⟩ := hf it (by simp)
    have hl := rv.length
    have hT : s.TypeIs (.ref e) "enumerate" := ⟨_, he, rfl⟩
    unfold pyNext
    refine wpAny_bind (wpAny_attempt (wpAny_callSpecial?_slot (name := Str.ofString "__next__") hT PySem.F.slot_enumerate_next
      (wpAny_call_entry PySem.F.slot_enumerate_next hT PySem.F.entry_enumerate_next ?_ (PySem.F.args_enumerate_next_1 _))))
    show wpAny _ _ (field (.ref e) 2 >>= _) _ _ _
    refine wpAny_bind (wpAny_field he rfl (x := .ref it) rfl ?_)
    refine wpAny_bind (wpAny_nextOf_tuple_end (I.ok.hd hc) hit p (by simp; omega) fun h' x he' hx' => ?_)
    obtain ⟨o, ho, hc'⟩ := hx'
    refine wpAny_bind (wpAny_isInstance (T := "StopIteration") (b := true) ⟨o, ho, hc'⟩ isSubtype_stop ?_)
    exact wpAny_pure ⟨rfl, I.turned (t' := s.toks) (fun b o hb q => he' b o hb q) f0 f1 f3 f4 f5⟩
  self := fun A i s Q E st h => let ⟨⟨_, he⟩, _⟩ := st; wpAny_pyIter_enum he h

def iEnumT (K : PySem.W.Frag) (ta : TA) : TI := fun σ H R => ta σ H fun vs H1 => ∃ a xs, vs = [.ref a] ∧ SqT K H1 a xs ∧ R (IteT K a) H1
theorem pi_enumT {X : Cx} {e : Expr} {ta : TA} {p pos tpos : Pos} {elts : List Expr} {kk : Nat} (hg : Gl X "enumerate") (hm : X.mg "enumerate" = none) (ha : PA X [e] ta) (hs : starEach [e] X.env = [(false, eval e X.env)]) :
    PI X (.Tuple elts kk tpos) (.Call (.Name "enumerate" p) [e] [] pos) (iEnumT X.K ta) := by
  refine ⟨fun pins s σ H R I h => ?_⟩
  refine Call_ (ld_blt I hg hm boot_enumerate (PyProof.Rows.callWith_type1 (thn (ha.run pos pins s σ H _ I h) fun us s1 ⟨vs, H1, I1, r1, q1⟩ => ?_) hs rfl))
  obtain ⟨a, xs, ex, hq, q⟩ := q1
  subst ex
  cases r1 with
  | cons r rr =>
    cases rr
    cases r
    obtain ⟨its, rv, p', hz⟩ := I1.tuple hq
    refine dl_call_enum1 (begins_tuple a its.toArray) p' fun h' he hit hsz hk => wpAny_pyIter_enum he ?_
    have I2 : Inv X pins σ H1 { s1 with heap := h' } := I1.kept (t' := s1.toks) hk
    have ha : a < s1.heap.objs.size := by obtain ⟨o, e, _⟩ := p'; exact Heap.lt_size e
    refine ⟨s1.heap.objs.size + 1, [s1.heap.objs.size + 1, s1.heap.objs.size], _, _, H1, rfl, I2, turn_enumT a (s1.heap.objs.size + 1) s1.heap.objs.size, ⟨⟨.none, he⟩, ⟨_, hit, rfl, rfl⟩, Nat.succ_ne_self _, Nat.ne_of_lt (Nat.lt_succ_of_lt ha), Nat.ne_of_lt ha⟩, fun b hb => ?_, q⟩
    have e' : b = s1.heap.objs.size + 1 ∨ b = s1.heap.objs.size := by simpa using hb
    have hle : s1.heap.objs.size ≤ b := by
      rcases e' with z | z
      · rw [z]; exact Nat.le_add_right _ _
      · rw [z]; exact Nat.le_refl _
    exact I1.fpOk hle (I1.hok.fresh hle)

structure WkD (g : Gd) (H0 : Hp) (m0 : List Addr) (I : ItD) (J : It) : Prop where
  go : ∀ i H m h, Ext H0 m0 H m → Rel g H m h → I.guard h → i < I.items.length → J.go i H
  stop : ∀ H m h, Ext H0 m0 H m → Rel g H m h → I.guard h → J.stop I.items.length H
  yld : ∀ i H m h x H', Ext H0 m0 H m → Rel g H m h → I.guard h → J.yld i H x H' → i < I.items.length → ∃ d, I.items[i]? = some d ∧ DV g.K H' m x d ∧ Ext H m H' m ∧ Rel g H' m h
def PostI (g : Gd) (W : WX) (σ : L2.St) (H : Hp) (m : List Addr) (R : It → Hp → Prop) : Res ItD → Prop
  | .ok I h1 => ∀ H' m' J, Ext H m H' m' → Rel g H' m' h1 → WkD g H' m' I J → R J H'
  | .ex x h1 => ∀ c d H' m', Ext H m H' m' → Rel g H' m' h1 → EV g H' m' x c d → W c d σ H'
  | .bad => False
def LI (g : Gd) (W : WX) (f : Sd → Hd → Res ItD) : TI := fun σ H R => ∃ m τ h, At g σ H m τ h ∧ PostI g W σ H m R (f τ h)
theorem pi_or {X : Cx} {tg e : Expr} {w1 w2 : TI} (h1 : PI X tg e w1) (h2 : PI X tg e w2) : PI X tg e (fun σ H R => w1 σ H R ∨ w2 σ H R) :=
  ⟨fun pins s σ H R I h => h.elim (h1.run pins s σ H R I) (h2.run pins s σ H R I)⟩
theorem PI.weak {X : Cx} {tg e : Expr} {t t' : TI} (p : PI X tg e t) (w : ∀ σ H Q, t' σ H Q → t σ H Q) : PI X tg e t' := ⟨fun pins s σ H Q I h => p.run pins s σ H Q I (w _ _ _ h)⟩
section
variable {g : Gd} {H : Hp} {m : List Addr} {h : Hd} {W : WX}
theorem wk_tup {a : Addr} {xs : List V} {ds : List D} (r : Rel g H m h) (s : SqT g.K H a xs) (q : DVs g.K H m xs ds) : WkD g H m ⟨ds, []⟩ (Itt g.K a) where
  go := fun i H' m' h' x r' _ hi => ⟨xs, xs[i]'(by rw [q.length]; exact hi), (r.stay x).tup _ _ s, List.getElem?_eq_getElem _⟩
  stop := fun H' m' h' x r' _ => ⟨xs, (r.stay x).tup _ _ s, by rw [q.length]; exact Nat.le_refl _⟩
  yld := fun i H' m' h' v H2 x r' _ ⟨e, f⟩ hi => by
    subst e
    obtain ⟨d, e1, q1⟩ := q.get' (f xs ((r.stay x).tup _ _ s))
    exact ⟨d, e1, q1.stay (r.stay x), .refl, r'⟩
theorem wk_rol {a : Addr} {xs : List V} {ds : List D} (r : Rel g H m h) (s : RoL g.K H a xs) (q : DVs g.K H m xs ds) : WkD g H m ⟨ds, []⟩ (Itl g.K a) where
  go := fun i H' m' h' x r' _ hi => ⟨xs, xs[i]'(by rw [q.length]; exact hi), ((r.stay x).rol _ _ s).sq, List.getElem?_eq_getElem _⟩
  stop := fun H' m' h' x r' _ => ⟨xs, ((r.stay x).rol _ _ s).sq, by rw [q.length]; exact Nat.le_refl _⟩
  yld := fun i H' m' h' v H2 x r' _ ⟨e, f⟩ hi => by
    subst e
    obtain ⟨d, e1, q1⟩ := q.get' (f xs ((r.stay x).rol _ _ s).sq)
    exact ⟨d, e1, q1.stay (r.stay x), .refl, r'⟩
theorem wk_lst {a : Addr} {n : Nat} {ds : List D} (e : m[n]? = some a) : WkD g H m ⟨ds, [(n, ds)]⟩ (Itl g.K a) where
  go := fun i H' m' h' x r' gu hi => by
    obtain ⟨xs, q1, q2⟩ := r'.lst (x.pl e) (gu (n, ds) (by simp))
    exact ⟨xs, xs[i]'(by rw [q2.length]; exact hi), .of q1, List.getElem?_eq_getElem _⟩
  stop := fun H' m' h' x r' gu => by
    obtain ⟨xs, q1, q2⟩ := r'.lst (x.pl e) (gu (n, ds) (by simp))
    exact ⟨xs, .of q1, by rw [q2.length]; exact Nat.le_refl _⟩
  yld := fun i H' m' h' v H2 x r' gu ⟨ee, f⟩ hi => by
    subst ee
    obtain ⟨xs, q1, q2⟩ := r'.lst (x.pl e) (gu (n, ds) (by simp))
    obtain ⟨d, e1, q3⟩ := q2.get' (f xs (.of q1))
    exact ⟨d, e1, q3, .refl, r'⟩
theorem wk_rng {lo : Int} {n : Nat} : WkD g H m ⟨(List.range n).map fun (i : Nat) => .int (lo + (i : Int)), []⟩ (Itr lo n) where
  go := fun i H' m' h' x r' gu hi => by show i < n; simpa using hi
  stop := fun H' m' h' x r' gu => by show n ≤ _; simp
  yld := fun i H' m' h' v H2 x r' gu ⟨e, f⟩ hi => by
    subst e f
    have hi' : i < n := by simpa using hi
    exact ⟨.int (lo + (i : Int)), by simp [hi'], .int _, .refl, r'⟩
theorem enumD_get : ∀ (ds : List D) (k i : Nat) (d : D), ds[i]? = some d → (enumD k ds)[i]? = some (.tup [.int ((k + i : Nat) : Int), d])
  | [], _, _, _, e => by simp at e
  | x :: xs, k, 0, d, e => by simp at e; subst e; rfl
  | x :: xs, k, i + 1, d, e => by
    have := enumD_get xs (k + 1) i d (by simpa using e)
    show (enumD (k + 1) xs)[i]? = _
    rw [this]
    have e2 : k + 1 + i = k + (i + 1) := by omega
    rw [e2]
theorem enumD_len : ∀ (ds : List D) (k : Nat), (enumD k ds).length = ds.length
  | [], _ => rfl
  | x :: xs, k => congrArg (· + 1) (enumD_len xs (k + 1))
theorem newPair {H' : Hp} {m' : List Addr} {h' : Hd} {T : Addr} {i : Nat} {x : V} {d : D} (r' : Rel g H' m' h') (hT : H' T = none) (q : DV g.K H' m' x d) :
    DV g.K (upd H' T (.tup [.int (i : Nat), x])) m' (.ref T) (.tup [.int (i : Nat), d]) ∧ Ext H' m' (upd H' T (.tup [.int (i : Nat), x])) m' ∧ Rel g (upd H' T (.tup [.int (i : Nat), x])) m' h' :=
  ⟨.tup (.inl (.inl upd_same)) (.cons (.int _) (.cons (q.stay (r'.stay (.tupNew hT))) .nil)), .tupNew hT, r'.tupNew hT⟩
theorem wk_enumT {a : Addr} {xs : List V} {ds : List D} (r : Rel g H m h) (s : SqT g.K H a xs) (q : DVs g.K H m xs ds) : WkD g H m ⟨enumD 0 ds, []⟩ (IteT g.K a) where
  go := fun i H' m' h' x r' _ hi => ⟨xs, xs[i]'(by rw [q.length]; rw [enumD_len] at hi; exact hi), (r.stay x).tup _ _ s, List.getElem?_eq_getElem _⟩
  stop := fun H' m' h' x r' _ => ⟨xs, (r.stay x).tup _ _ s, by rw [q.length]; show _ ≤ (enumD 0 ds).length; rw [enumD_len]; exact Nat.le_refl _⟩
  yld := fun i H' m' h' v H2 x r' _ ⟨T, y, ev, hT, e, f⟩ hi => by
    subst ev e
    obtain ⟨d, e1, q1⟩ := q.get' (f xs ((r.stay x).tup _ _ s))
    have e2 := enumD_get ds 0 i d e1
    rw [Nat.zero_add] at e2
    exact ⟨_, e2, newPair r' hT (q1.stay (r.stay x))⟩
theorem wk_enumL {a : Addr} {n : Nat} {ds : List D} (e : m[n]? = some a) : WkD g H m ⟨enumD 0 ds, [(n, ds)]⟩ (Ite g.K a) where
  go := fun i H' m' h' x r' gu hi => by
    obtain ⟨xs, q1, q2⟩ := r'.lst (x.pl e) (gu (n, ds) (by simp))
    exact ⟨xs, xs[i]'(by rw [q2.length]; rw [enumD_len] at hi; exact hi), .of q1, List.getElem?_eq_getElem _⟩
  stop := fun H' m' h' x r' gu => by
    obtain ⟨xs, q1, q2⟩ := r'.lst (x.pl e) (gu (n, ds) (by simp))
    exact ⟨xs, .of q1, by rw [q2.length]; show _ ≤ (enumD 0 ds).length; rw [enumD_len]; exact Nat.le_refl _⟩
  yld := fun i H' m' h' v H2 x r' gu ⟨T, y, ev, hT, ee, f⟩ hi => by
    subst ev ee
    obtain ⟨xs, q1, q2⟩ := r'.lst (x.pl e) (gu (n, ds) (by simp))
    obtain ⟨d, e1, q3⟩ := q2.get' (f xs (.of q1))
    have e2 := enumD_get ds 0 i d e1
    rw [Nat.zero_add] at e2
    exact ⟨_, e2, newPair r' hT q3⟩
theorem wk_enumR {a : Addr} {xs : List V} {ds : List D} (r : Rel g H m h) (s : RoL g.K H a xs) (q : DVs g.K H m xs ds) : WkD g H m ⟨enumD 0 ds, []⟩ (Ite g.K a) where
  go := fun i H' m' h' x r' _ hi => ⟨xs, xs[i]'(by rw [q.length]; rw [enumD_len] at hi; exact hi), ((r.stay x).rol _ _ s).sq, List.getElem?_eq_getElem _⟩
  stop := fun H' m' h' x r' _ => ⟨xs, ((r.stay x).rol _ _ s).sq, by rw [q.length]; show _ ≤ (enumD 0 ds).length; rw [enumD_len]; exact Nat.le_refl _⟩
  yld := fun i H' m' h' v H2 x r' _ ⟨T, y, ev, hT, e, f⟩ hi => by
    subst ev e
    obtain ⟨d, e1, q1⟩ := q.get' (f xs ((r.stay x).rol _ _ s).sq)
    have e2 := enumD_get ds 0 i d e1
    rw [Nat.zero_add] at e2
    exact ⟨_, e2, newPair r' hT (q1.stay (r.stay x))⟩

variable {X : Cx} {tg e : Expr} {f : Fe}
theorem li_ex {σ : L2.St} {τ : Sd} {x : Exn} {h1 : Hd} {R : It → Hp → Prop} {k : D → Hd → Res ItD} (a : At g σ H m τ h) (q : f τ h = .ex x h1) (p : PostI g W σ H m R ((f τ h).bind k)) {Q : VK} : LE g W f σ H Q :=
  ⟨m, τ, h, a, by rw [q] at p ⊢; exact p⟩
theorem p_seq (hK : X.K = g.K) (he : PE X e (LE g W f)) : PI X tg e (LI g W fun τ h => (f τ h).bind fun d h1 => ofI (itSeq d h1) h1) := by
  refine PI.weak (pi_or (pi_list he) (pi_tup he)) fun σ H R ⟨m, τ, h, a, p⟩ => ?_
  dsimp only at p
  rw [hK]
  cases q : f τ h with
  | ex x h1 => exact .inl (li_ex a q p)
  | bad => rw [q] at p; exact p.elim
  | ok d h1 =>
    have p' : PostI g W σ H m R (ofI (itSeq d h1) h1) := by rw [q] at p; exact p
    cases d with
    | tup ds =>
      refine .inr ⟨m, τ, h, a, ?_⟩
      rw [q]
      intro v H' m' x r qv
      cases qv with
      | tup s t => exact ⟨_, rfl, ⟨_, s⟩, p' _ _ _ x r (wk_tup r s t)⟩
    | rol ds =>
      refine .inl ⟨m, τ, h, a, ?_⟩
      rw [q]
      intro v H' m' x r qv
      cases qv with
      | rol s t => exact ⟨_, rfl, ⟨_, s.sq⟩, p' _ _ _ x r (wk_rol r s t)⟩
    | ref n =>
      refine .inl ⟨m, τ, h, a, ?_⟩
      rw [q]
      intro v H' m' x r qv
      cases qv with
      | ref e1 =>
        simp only [itSeq] at p'
        split at p'
        · rename_i e2
          obtain ⟨xs, q1, q2⟩ := r.lst e1 e2
          exact ⟨_, rfl, ⟨xs, .of q1⟩, p' _ _ _ x r (wk_lst e1)⟩
        · exact p'.elim
    | _ => exact p'.elim
theorem p_enum {ea : Expr} {p pos tpos : Pos} {elts : List Expr} {kk : Nat} (hK : X.K = g.K) (hg : Gl X "enumerate") (hm : X.mg "enumerate" = none) (he : PE X ea (LE g W f)) (ns : notStar ea = true) :
    PI X (.Tuple elts kk tpos) (.Call (.Name "enumerate" p) [ea] [] pos) (LI g W fun τ h => (f τ h).bind fun d h1 => ofI (itEnum d h1) h1) := by
  have hs : starEach [ea] X.env = [(false, eval ea X.env)] := star_of ns
  have pa := pa_cons he pa_nil (star_of ns)
  refine PI.weak (pi_or (pi_enum hg hm pa hs) (pi_enumT hg hm pa hs)) fun σ H R ⟨m, τ, h, a, p⟩ => ?_
  dsimp only at p
  rw [hK]
  cases q : f τ h with
  | ex x h1 => exact .inl (li_ex a q p)
  | bad => rw [q] at p; exact p.elim
  | ok d h1 =>
    have p' : PostI g W σ H m R (ofI (itEnum d h1) h1) := by rw [q] at p; exact p
    cases d with
    | tup ds =>
      refine .inr ⟨m, τ, h, a, ?_⟩
      rw [q]
      intro v H' m' x r qv
      cases qv with
      | tup s t => exact ⟨_, _, rfl, s, p' _ _ _ x r (wk_enumT r s t)⟩
    | rol ds =>
      refine .inl ⟨m, τ, h, a, ?_⟩
      rw [q]
      intro v H' m' x r qv
      cases qv with
      | rol s t => exact ⟨_, _, rfl, s.sq, p' _ _ _ x r (wk_enumR r s t)⟩
    | ref n =>
      refine .inl ⟨m, τ, h, a, ?_⟩
      rw [q]
      intro v H' m' x r qv
      cases qv with
      | ref e1 =>
        simp only [itEnum, itSeq] at p'
        split at p'
        · rename_i e2
          obtain ⟨xs, q1, q2⟩ := r.lst e1 e2
          exact ⟨_, xs, rfl, .of q1, p' _ _ _ x r (wk_enumL e1)⟩
        · exact p'.elim
    | _ => exact p'.elim
theorem p_rng1 {ea : Expr} {p pos : Pos} (hg : Gl X "range") (hm : X.mg "range" = none) (he : PE X ea (LE g W f)) (ns : notStar ea = true) :
    PI X tg (.Call (.Name "range" p) [ea] [] pos) (LI g W fun τ h => (f τ h).bind fun d h1 => match d with | .int j => ofI (itRng 0 j) h1 | _ => .bad) := by
  have hs : starEach [ea] X.env = [(false, eval ea X.env)] := star_of ns
  refine PI.weak (pi_range1 hg hm (pa_cons he pa_nil (star_of ns)) hs) fun σ H R ⟨m, τ, h, a, p⟩ => ?_
  refine ⟨m, τ, h, a, ?_⟩
  dsimp only at p
  cases q : f τ h with
  | ex x h1 => rw [q] at p; exact p
  | bad => rw [q] at p; exact p.elim
  | ok d h1 =>
    rw [q] at p
    intro v H' m' x r qv
    cases qv with
    | int j =>
      have p' : PostI g W σ H m R (ofI (itRng 0 j) h1) := p
      simp only [itRng] at p'
      split at p'
      · rename_i hz
        refine ⟨j, rfl, hz.2.2.1, hz.2.2.2, ?_⟩
        have e0 : (j - 0).toNat = j.toNat := by simp
        rw [e0] at p'
        exact p' _ _ _ x r wk_rng
      · exact p'.elim
    | _ => exact p.elim
theorem p_rng2 {f' : Fe} {ea eb : Expr} {p pos : Pos} (hg : Gl X "range") (hm : X.mg "range" = none) (he : PE X ea (LE g W f)) (hb : PE X eb (LE g W f')) (ns : notStar ea = true) (ns' : notStar eb = true) :
    PI X tg (.Call (.Name "range" p) [ea, eb] [] pos) (LI g W fun τ h => (f τ h).bind fun d h1 => (f' τ h1).bind fun e h2 => match d, e with | .int i, .int j => ofI (itRng i j) h2 | _, _ => .bad) := by
  have hs2 : starEach [eb] X.env = [(false, eval eb X.env)] := star_of ns'
  have hs : starEach [ea, eb] X.env = [(false, eval ea X.env), (false, eval eb X.env)] := by rw [star_of ns, hs2]
  refine PI.weak (pi_range2 hg hm (pa_cons he (pa_cons hb pa_nil (star_of ns')) (star_of ns)) hs hs2) fun σ H R ⟨m, τ, h, a, p⟩ => ?_
  refine ⟨m, τ, h, a, ?_⟩
  dsimp only at p
  cases q : f τ h with
  | ex x h1 => rw [q] at p; exact p
  | bad => rw [q] at p; exact p.elim
  | ok d h1 =>
    rw [q] at p
    intro v H' m' x r qv
    simp only [Res.bind_ok] at p
    refine ⟨m', τ, h1, a.ext x r, ?_⟩
    cases q2 : f' τ h1 with
    | ex y h2 => rw [q2] at p; exact fun c d H'' m'' x' => p c d H'' m'' (x.trans x')
    | bad => rw [q2] at p; exact p.elim
    | ok d2 h2 =>
      rw [q2] at p
      intro v2 H2 m2 x2 r2 qv2
      cases qv with
      | int i => cases qv2 with
        | int j =>
          have p' : PostI g W σ H m R (ofI (itRng i j) h2) := p
          simp only [itRng] at p'
          split at p'
          · rename_i hz
            exact ⟨i, j, rfl, hz, p' _ _ _ (x.trans x2) r2 wk_rng⟩
          · exact p'.elim
        | _ => exact p.elim
      | _ => exact p.elim
end
theorem zip_get {xs ys : List D} {i : Nat} {x y : D} (e1 : xs[i]? = some x) (e2 : ys[i]? = some y) : ((xs.zip ys).map fun p : D × D => D.tup [p.1, p.2])[i]? = some (.tup [x, y]) := by
  rw [List.getElem?_map, (List.getElem?_zip_eq_some (z := (x, y))).mpr ⟨e1, e2⟩]; rfl
theorem pair2 {g : Gd} {H' : Hp} {m' : List Addr} {h' : Hd} {T : Addr} {x y : V} {d e : D} (r' : Rel g H' m' h') (hT : H' T = none) (q : DV g.K H' m' x d) (q' : DV g.K H' m' y e) :
    DV g.K (upd H' T (.tup [x, y])) m' (.ref T) (.tup [d, e]) ∧ Ext H' m' (upd H' T (.tup [x, y])) m' ∧ Rel g (upd H' T (.tup [x, y])) m' h' :=
  ⟨.tup (.inl (.inl upd_same)) (.cons (q.stay (r'.stay (.tupNew hT))) (.cons (q'.stay (r'.stay (.tupNew hT))) .nil)), .tupNew hT, r'.tupNew hT⟩
section
variable {g : Gd} {H : Hp} {m : List Addr} {h : Hd} {W : WX}
theorem wk_zipT {a b : Addr} {xs ys : List V} {ds es : List D} (r : Rel g H m h) (s : SqT g.K H a xs) (q : DVs g.K H m xs ds) (s' : SqT g.K H b ys) (q' : DVs g.K H m ys es) : WkD g H m ⟨(ds.zip es).map fun p => .tup [p.1, p.2], []⟩ (RZ.ItzT g.K a b) where
  go := fun i H' m' h' x r' _ hi => by
    have hi' : i < xs.length ∧ i < ys.length := by rw [q.length, q'.length]; exact Nat.lt_min.mp (by simpa using hi)
    exact ⟨xs, ys, xs[i]'hi'.1, ys[i]'hi'.2, (r.stay x).tup _ _ s, (r.stay x).tup _ _ s', List.getElem?_eq_getElem _, List.getElem?_eq_getElem _⟩
  stop := fun H' m' h' x r' _ => ⟨xs, ys, (r.stay x).tup _ _ s, (r.stay x).tup _ _ s', by rw [q.length, q'.length]; simp; omega⟩
  yld := fun i H' m' h' v H2 x r' _ ⟨T, y1, y2, ev, hT, e, f1, f2⟩ hi => by
    subst ev e
    obtain ⟨d, e1, q1⟩ := q.get' (f1 xs ((r.stay x).tup _ _ s))
    obtain ⟨d', e1', q1'⟩ := q'.get' (f2 ys ((r.stay x).tup _ _ s'))
    exact ⟨_, zip_get e1 e1', pair2 r' hT (q1.stay (r.stay x)) (q1'.stay (r.stay x))⟩
theorem wk_zipL {a b : Addr} {n n' : Nat} {ds es : List D} (e : m[n]? = some a) (e' : m[n']? = some b) : WkD g H m ⟨(ds.zip es).map fun p => .tup [p.1, p.2], [(n, ds)] ++ [(n', es)]⟩ (Itz g.K a b) where
  go := fun i H' m' h' x r' gu hi => by
    obtain ⟨xs, q1, q2⟩ := r'.lst (x.pl e) (gu (n, ds) (by simp))
    obtain ⟨ys, q1', q2'⟩ := r'.lst (x.pl e') (gu (n', es) (by simp))
    have hi' : i < xs.length ∧ i < ys.length := by rw [q2.length, q2'.length]; exact Nat.lt_min.mp (by simpa using hi)
    exact ⟨xs, ys, xs[i]'hi'.1, ys[i]'hi'.2, .of q1, .of q1', List.getElem?_eq_getElem _, List.getElem?_eq_getElem _⟩
  stop := fun H' m' h' x r' gu => by
    obtain ⟨xs, q1, q2⟩ := r'.lst (x.pl e) (gu (n, ds) (by simp))
    obtain ⟨ys, q1', q2'⟩ := r'.lst (x.pl e') (gu (n', es) (by simp))
    exact ⟨xs, ys, .of q1, .of q1', by rw [q2.length, q2'.length]; simp; omega⟩
  yld := fun i H' m' h' v H2 x r' gu ⟨T, y1, y2, ev, hT, ee, f1, f2⟩ hi => by
    subst ev ee
    obtain ⟨xs, q1, q2⟩ := r'.lst (x.pl e) (gu (n, ds) (by simp))
    obtain ⟨ys, q1', q2'⟩ := r'.lst (x.pl e') (gu (n', es) (by simp))
    obtain ⟨d, e1, q3⟩ := q2.get' (f1 xs (.of q1))
    obtain ⟨d', e1', q3'⟩ := q2'.get' (f2 ys (.of q1'))
    exact ⟨_, zip_get e1 e1', pair2 r' hT q3 q3'⟩
variable {X : Cx} {tg e : Expr} {f : Fe}
theorem p_zip {f' : Fe} {ea eb : Expr} {p pos tpos : Pos} {elts : List Expr} {kk : Nat} (hK : X.K = g.K) (hg : Gl X "zip") (hm : X.mg "zip" = none) (he : PE X ea (LE g W f)) (hb : PE X eb (LE g W f')) (ns : notStar ea = true) (ns' : notStar eb = true) :
    PI X (.Tuple elts kk tpos) (.Call (.Name "zip" p) [ea, eb] [] pos) (LI g W fun τ h => (f τ h).bind fun d h1 => (f' τ h1).bind fun e h2 => ofI (itZip d e h2) h2) := by
  have hs2 : starEach [eb] X.env = [(false, eval eb X.env)] := star_of ns'
  refine PI.weak (RZ.pi_zipA hg hm (pa_cons he (pa_cons hb pa_nil (star_of ns')) (star_of ns)) (star_of ns) (by rw [hs2]; rfl)) fun σ H R ⟨m, τ, h, a, p⟩ => ?_
  rw [hK]
  refine ⟨m, τ, h, a, ?_⟩
  dsimp only at p
  cases q : f τ h with
  | ex x h1 => rw [q] at p; exact p
  | bad => rw [q] at p; exact p.elim
  | ok d h1 =>
    rw [q] at p
    intro v H' m' x r qv
    simp only [Res.bind_ok] at p
    refine ⟨m', τ, h1, a.ext x r, ?_⟩
    cases q2 : f' τ h1 with
    | ex y h2 => rw [q2] at p; exact fun c d H'' m'' x' => p c d H'' m'' (x.trans x')
    | bad => rw [q2] at p; exact p.elim
    | ok d2 h2 =>
      rw [q2] at p
      intro v2 H2 m2 x2 r2 qv2
      have p' : PostI g W σ H m R (ofI (itZip d d2 h2) h2) := p
      have qv' := qv.stay (r.stay x2)
      unfold itZip at p'
      split at p'
      · rename_i I J e1 e2
        cases qv' with
        | tup s t =>
          cases qv2 with
          | tup s' t' =>
            cases e1
            cases e2
            exact ⟨_, _, _, _, rfl, .inr ⟨s, s', p' _ _ _ (x.trans x2) r2 (wk_zipT r2 s t s' t')⟩⟩
          | _ => exact p'.elim
        | ref l1 =>
          cases qv2 with
          | ref l2 =>
            simp only [itSeq] at e1 e2
            split at e1
            · rename_i g1
              cases e1
              split at e2
              · rename_i g2
                cases e2
                obtain ⟨xs, q1, _⟩ := r2.lst l1 g1
                obtain ⟨ys, q1', _⟩ := r2.lst l2 g2
                exact ⟨_, _, xs, ys, rfl, .inl ⟨.of q1, .of q1', p' _ _ _ (x.trans x2) r2 (wk_zipL l1 l2)⟩⟩
              · cases e2
            · cases e1
          | _ => exact p'.elim
        | _ => exact p'.elim
      · exact p'.elim
end
end DL

set_option Elab.async false
set_option linter.all false
set_option maxRecDepth 100000
namespace DL
open PySem PySem.Spec PyProof.Rows L2

section
variable {g : Gd} {H H' H1 : Hp} {m m' m1 : List Addr} {h : Hd} {W : WX} {σ : L2.St} {τ : Sd}
theorem Ext.out (x : Ext H m H' m') {a : Addr} {o : HO} (n : a ∉ m) (e : H a = some o) (t : ∀ ps, o ≠ .tbl ps) : a ∉ m' ∧ H' a = some o := by
  refine ⟨fun z => ?_, x.keep a o n e t⟩
  obtain ⟨e', rfl, p⟩ := x.pre
  rcases List.mem_append.mp z with z | z
  · exact n z
  · obtain ⟨ps, q⟩ := (p a z).1 o e
    exact t ps q
theorem Rel.add {a : Addr} {o : OD} (r : Rel g H m h) (n : a ∉ m) (hu : OV g H (m ++ [a]) a o) : Rel g H (m ++ [a]) (h ++ [o]) where
  len := by simp [r.len]
  nd := List.nodup_append.mpr ⟨r.nd, by simp, fun x hx b hb => by rw [List.mem_singleton.mp hb]; intro e; subst e; exact n hx⟩
  obj := fun i x o' e1 e2 => by
    have st : Stay g.K H m H (m ++ [a]) := r.stayOf (fun _ _ _ e _ => e) fun i b e => by
      obtain ⟨q, _⟩ := List.getElem?_eq_some_iff.mp e
      rw [List.getElem?_append_left q]; exact e
    by_cases hn : i < m.length
    · rw [List.getElem?_append_left hn] at e1
      rw [List.getElem?_append_left (r.len ▸ hn)] at e2
      exact (r.obj i x o' e1 e2).stay st rfl
    · have hl : i = m.length := by
        obtain ⟨q, _⟩ := List.getElem?_eq_some_iff.mp e1
        simp at q; omega
      subst hl
      simp at e1
      rw [r.len] at e2
      simp at e2
      subst e1 e2
      exact hu
  tabs := r.tabs
/-- an untracked place is written -/
theorem Stay.other {K : PySem.W.Frag} {a : Addr} {xs ys : List V} (e : H a = some (.lst xs)) : Stay K H m (upd H a (.lst ys)) m where
  tup := fun b zs q => by
    rcases q with (q | ⟨o, q⟩) | q
    · exact .inl (.inl (by rw [upd_ne (ne_of q e (by intro z; cases z))]; exact q))
    · exact .inl (.inr ⟨o, by rw [upd_ne (ne_of q e (by intro z; cases z))]; exact q⟩)
    · exact .inr q
  rol := fun b zs q => by
    rcases q with ⟨o, q⟩ | q
    · exact .inl ⟨o, by rw [upd_ne (ne_of q e (by intro z; cases z))]; exact q⟩
    · exact .inr q
  pl := fun _ _ e => e
theorem Rel.other {a : Addr} {xs ys : List V} (r : Rel g H m h) (n : a ∉ m) (e : H a = some (.lst xs)) : Rel g (upd H a (.lst ys)) m h where
  len := r.len
  nd := r.nd
  obj := fun i b o e1 e2 => (r.obj i b o e1 e2).stay (.other e) (upd_ne fun z => n (z ▸ List.mem_of_getElem? e1))
  tabs := tabs_upd r.tabs (fun _ z => by rw [e] at z; cases z) fun _ z => by rw [e] at z; cases z

theorem wipe_set {i : Nat} {x : Option V} : ∀ {vs : List Nat} {σ : L2.St}, i ∈ vs → wipe (σ.set i x) vs = wipe σ vs
  | [], _, h => nomatch h
  | v :: vs, σ, h => by
    unfold wipe
    by_cases hi : i ∈ vs
    · rw [wipe_set hi]
    · have e : i = v := by
        rcases List.mem_cons.mp h with e | e
        · exact e
        · exact absurd e hi
      subst e
      have : ∀ {vs : List Nat} {σ : L2.St}, i ∉ vs → wipe (σ.set i x) vs = (wipe σ vs).set i x := by
        intro vs
        induction vs with
        | nil => intro σ _; rfl
        | cons w ws ih =>
          intro σ hn
          unfold wipe
          rw [ih (fun z => hn (List.mem_cons_of_mem _ z)), List.set_comm _ _ (fun z => hn (by rw [z]; exact List.mem_cons_self))]
      rw [this hi, List.set_set]
theorem wipeD_len (τ : Sd) : ∀ vs : List Nat, (wipeD τ vs).length = τ.length
  | [] => rfl
  | v :: vs => by unfold wipeD; rw [List.length_set, wipeD_len τ vs]
theorem wipeD_none {τ : Sd} {i : Nat} {d : D} : ∀ {vs : List Nat}, (wipeD τ vs)[i]? = some (some d) → τ[i]? = some (some d) ∧ i ∉ vs
  | [], h => ⟨h, by simp⟩
  | v :: vs, h => by
    unfold wipeD at h
    by_cases hi : v = i
    · subst hi
      by_cases hv : v < (wipeD τ vs).length
      · rw [List.getElem?_set_self hv] at h; cases h
      · rw [List.getElem?_eq_none (by simpa using hv)] at h; cases h
    · rw [List.getElem?_set_ne hi] at h
      obtain ⟨h1, h2⟩ := wipeD_none h
      exact ⟨h1, by simp only [List.mem_cons, not_or]; exact ⟨fun e => hi e.symm, h2⟩⟩
theorem wipe_idem (σ : L2.St) : ∀ vs : List Nat, wipe (wipe σ vs) vs = wipe σ vs := by
  have go : ∀ (ws vs : List Nat) (σ : L2.St), (∀ i ∈ ws, i ∈ vs) → wipe (wipe σ ws) vs = wipe σ vs := by
    intro ws
    induction ws with
    | nil => intro vs σ _; rfl
    | cons w ws ih =>
      intro vs σ h
      show wipe ((wipe σ ws).set w none) vs = _
      rw [wipe_set (h w List.mem_cons_self), ih vs σ fun i hi => h i (List.mem_cons_of_mem _ hi)]
  exact fun vs => go vs vs σ fun _ hi => hi
theorem wipe_out' {σ : L2.St} {i : Nat} : ∀ {vs : List Nat}, i ∉ vs → (wipe σ vs)[i]? = σ[i]?
  | [], _ => rfl
  | v :: vs, h => by
    unfold wipe
    rw [List.getElem?_set_ne (fun z => h (by rw [z]; exact List.mem_cons_self))]
    exact wipe_out' fun z => h (List.mem_cons_of_mem _ z)
theorem SV.wipe {K : PySem.W.Frag} (s : SV K H m σ τ) (vs : List Nat) : SV K H m (wipe σ vs) (wipeD τ vs) := by
  refine ⟨by rw [wipe_length, wipeD_len]; exact s.1, fun i d e => ?_⟩
  obtain ⟨e1, e2⟩ := wipeD_none e
  obtain ⟨v, q1, q2⟩ := s.2 i d e1
  exact ⟨v, by rw [wipe_out' e2]; exact q1, q2⟩
theorem SV.set {K : PySem.W.Frag} (s : SV K H m σ τ) (i : Nat) {v : V} {d : D} (r : DV K H m v d) : SV K H m (σ.set i (some v)) (τ.set i (some d)) := by
  refine ⟨by simp [s.1], fun j e q => ?_⟩
  by_cases hj : i = j
  · subst hj
    by_cases hl : i < τ.length
    · rw [List.getElem?_set_self hl] at q
      cases q
      exact ⟨v, List.getElem?_set_self (by rw [s.1]; exact hl), r⟩
    · rw [List.getElem?_eq_none (by simpa using hl)] at q; cases q
  · rw [List.getElem?_set_ne hj] at q ⊢
    exact s.2 j e q

def gNs : List Nat → TGs
  | [] => gNil
  | i :: is => gCons (gName i) (gNs is)
def gT (K : PySem.W.Frag) : ITg → TG
  | .name i => gName i
  | .tup is => gTup K is.length (gNs is)
theorem gNs_ok : ∀ (is : List Nat) {xs : List V} {ds : List D} {σ : L2.St} {τ : Sd}, xs.length = is.length → DVs g.K H m xs ds → SV g.K H m σ τ → ∀ Q : L2.St → Hp → Prop,
    (∀ σ', SV g.K H m σ' (setNs is ds τ) → (∀ vs, (∀ i ∈ is, i ∈ vs) → wipe σ' vs = wipe σ vs) → Q σ' H) → gNs is xs σ H Q
  | [], xs, ds, σ, τ, hl, q, s, Q, hq => by
    cases q with
    | nil => exact ⟨rfl, hq σ s fun _ _ => rfl⟩
    | cons _ _ => cases hl
  | i :: is, xs, ds, σ, τ, hl, q, s, Q, hq => by
    cases q with
    | nil => cases hl
    | cons r t =>
      refine ⟨_, _, rfl, ?_⟩
      refine gNs_ok is (by simpa using hl) t (s.set i r) Q fun σ' s' w => hq σ' s' fun vs hv => ?_
      rw [w vs (fun j hj => hv j (List.mem_cons_of_mem _ hj)), wipe_set (hv i List.mem_cons_self)]
theorem gT_ok {t : ITg} {v : V} {d : D} {τ' : Sd} (q : DV g.K H m v d) (s : SV g.K H m σ τ) (e : setTg t d τ = some τ') (Q : L2.St → Hp → Prop)
    (hq : ∀ σ', SV g.K H m σ' τ' → (∀ vs, tgIn t vs = true → wipe σ' vs = wipe σ vs) → Q σ' H) : gT g.K t v σ H Q := by
  cases t with
  | name i =>
    cases e
    exact hq _ (s.set i q) fun vs hv => wipe_set (by simpa [tgIn] using hv)
  | tup is =>
    cases q with
    | tup a b =>
      simp only [setTg] at e
      split at e
      · rename_i hl
        cases e
        refine ⟨_, _, rfl, a, by rw [b.length]; exact hl, ?_⟩
        refine gNs_ok is (by rw [b.length]; exact hl) b s Q fun σ' s' w => hq σ' s' fun vs hv => w vs fun i hi => ?_
        simp only [tgIn, List.all_eq_true] at hv
        simpa using hv i hi
      · cases e
    | _ => cases e
end

section
variable {X : Cx} {c : Ck} {g : Gd} {C : Tab} {W : WX} {k : Nat}
theorem loc_of (ok : XOk X c g C W k) {x : Str} (h : locB c x = true) : Loc X.env.scope x ∧ (X.fn x = true ∨ X.env.scope.names.lookup x = some .local) := by
  unfold locB at h
  rw [← ok.sc] at h
  split at h
  · exact ⟨.inl (by assumption), .inr (by assumption)⟩
  · exact ⟨.inr (by assumption), .inl (ok.cells x h)⟩
  · cases h
theorem mNm_of {i : Nat} {e : Expr} (h : mNm c i e = true) : ∃ x pos, e = .Name x pos ∧ c.N[i]? = some x ∧ locB c x = true := by
  unfold mNm at h
  split at h
  · obtain ⟨h1, h2⟩ := and3 h
    exact ⟨_, _, rfl, of_decide_eq_true h1, h2⟩
  · cases h
theorem p_nm (ok : XOk X c g C W k) {i : Nat} {e : Expr} (h : mNm c i e = true) : PG X e (gName i) := by
  obtain ⟨x, pos, rfl, h1, h2⟩ := mNm_of h
  obtain ⟨l1, l2⟩ := loc_of ok h2
  exact pg_name ok.nd (by rw [ok.N]; exact h1) l1 l2
theorem mNms_len : ∀ {is : List Nat} {es : List Expr}, mNms c is es = true → is.length = es.length
  | [], [], _ => rfl
  | [], _ :: _, h => by cases h
  | _ :: _, [], h => by cases h
  | i :: is, e :: es, h => congrArg (· + 1) (mNms_len (and3 h).2)
theorem ass_nm {i : Nat} {e : Expr} {es : List Expr} {env : Env} (h : mNm c i e = true) : assignEach (e :: es) env = (false, assign e env) :: assignEach es env := by
  obtain ⟨x, pos, rfl, _, _⟩ := mNm_of h
  rfl
theorem p_nms (ok : XOk X c g C W k) : ∀ {is : List Nat} {es : List Expr}, mNms c is es = true → PGs X es (gNs is)
  | [], [], _ => pgs_nil
  | [], _ :: _, h => by cases h
  | _ :: _, [], h => by cases h
  | i :: is, e :: es, h => pgs_cons (p_nm ok (and3 h).1) (p_nms ok (and3 h).2) (by rw [ass_nm (and3 h).1]; rfl)
theorem ass_nms {env : Env} : ∀ {is : List Nat} {es : List Expr}, mNms c is es = true → (assignEach es env).length = is.length ∧ (assignEach es env).findIdx? (·.1) = none
  | [], [], _ => ⟨rfl, rfl⟩
  | [], _ :: _, h => by cases h
  | _ :: _, [], h => by cases h
  | i :: is, e :: es, h => by
    obtain ⟨q1, q2⟩ := ass_nms (env := env) (and3 h).2
    rw [ass_nm (and3 h).1]
    refine ⟨by simp [q1], ?_⟩
    rw [List.findIdx?_cons]
    simp [q2]
theorem p_tg (ok : XOk X c g C W k) {t : ITg} {e : Expr} (h : mTg c t e = true) : PG X e (gT g.K t) := by
  cases t with
  | name i => exact p_nm ok h
  | tup is =>
    unfold mTg at h
    split at h
    · cases ‹ITg.tup is = ITg.name _›
    · rename_i is' es kk pos heq
      cases heq
      obtain ⟨q1, q2⟩ := ass_nms (env := X.env) h
      have := pg_tup (k := kk) (pos := pos) ok.calm (p_nms ok h) q1 q2
      rw [ok.K] at this
      exact this
    · cases h

theorem blk_ok (ok : XOk X c g C W k) {scope : Scope} {own : List (Str × Nat)} (b : BlkOk c.N c.sc scope own) (s : Shared) (H : Hp) (Ca : Addr) (cl : List (Str × Addr)) (fp : List Addr) :
    XOk (X.blk s H scope (compEnvC scope cl Ca X.env) fp) (c.blk scope) g C (fun _ _ _ _ => False) k where
  N := ok.N
  nd := ok.nd
  sc := by
    show (relS scope X.env.scope).names = (relSN scope c.sc).names
    unfold relS relSN
    rw [ok.kind, ok.ckind, ok.sc]
  kind := b.kind
  ckind := b.kind
  K := ok.K
  calm := ok.calm
  cells := fun x hx => by
    show (scope.names.lookup x == some .cell) = true
    have hx' : x ∈ (scope.names.filterMap fun (n, k) => if k == .cell then some n else none) := by simpa [Ck.blk] using hx
    obtain ⟨⟨n, k'⟩, hm, he⟩ := List.mem_filterMap.mp hx'
    by_cases q : (k' == NameKind.cell) = true
    · simp only [q, if_true] at he
      cases he
      have q' : k' = .cell := by simpa using q
      subst q'
      rw [b.uniq _ hm]
      rfl
    · simp only [q] at he
      cases he
  free := ok.free
  fns := ok.fns
  room := ok.room
  lam := fun z => nomatch z
  takes := takes0
  own := PassesOwn.never
  gf := ok.gf

def PTsO (o : Option Ft) (g : Gd) : TT := match o with | none => tYes | some f => LT g (fun _ _ _ _ => False) f
theorem compL_stop {I : ItD} {t : ITg} {co : Option Ft} {e : Fe} {τ : Sd} {h h2 : Hd} {ds : List D} (q : compL I t co e τ [] h = .ok ds h2) : I.guard h ∧ ds = [] ∧ h2 = h := by
  unfold compL at q
  by_cases gu : I.guard h
  · rw [if_pos gu] at q; cases q; exact ⟨gu, rfl, rfl⟩
  · rw [if_neg gu] at q; cases q
theorem compL_go {I : ItD} {t : ITg} {co : Option Ft} {e : Fe} {τ : Sd} {h h2 : Hd} {d : D} {r ds : List D} (q : compL I t co e τ (d :: r) h = .ok ds h2) : I.guard h ∧ ∃ τ1, setTg t d τ = some τ1 ∧ ∃ b hb,
    testO co τ1 h = .ok b hb ∧ ((b = true ∧ ∃ y hy rest, e τ1 hb = .ok y hy ∧ compL I t co e τ r hy = .ok rest h2 ∧ ds = y :: rest) ∨ (b = false ∧ compL I t co e τ r hb = .ok ds h2)) := by
  rw [compL] at q
  by_cases gu : I.guard h
  · rw [if_pos gu] at q
    refine ⟨gu, ?_⟩
    cases q1 : setTg t d τ with
    | none => rw [q1] at q; cases q
    | some τ1 =>
      rw [q1] at q
      refine ⟨τ1, rfl, ?_⟩
      dsimp only at q
      cases q2 : testO co τ1 h with
      | ex x hx => rw [q2] at q; cases q
      | bad => rw [q2] at q; cases q
      | ok b hb =>
        rw [q2] at q
        refine ⟨b, hb, rfl, ?_⟩
        cases b with
        | false => exact .inr ⟨rfl, q⟩
        | true =>
          refine .inl ⟨rfl, ?_⟩
          have q' : (e τ1 hb).bind (fun x h2 => (compL I t co e τ r h2).bind fun xs h3 => .ok (x :: xs) h3) = .ok ds h2 := q
          cases q3 : e τ1 hb with
          | ex x hx => rw [q3] at q'; cases q'
          | bad => rw [q3] at q'; cases q'
          | ok y hy =>
            rw [q3, Res.bind_ok] at q'
            cases q4 : compL I t co e τ r hy with
            | ex x hx => rw [q4] at q'; cases q'
            | bad => rw [q4] at q'; cases q'
            | ok rest h3 =>
              rw [q4, Res.bind_ok] at q'
              cases q'
              exact ⟨y, hy, rest, rfl, q4, rfl⟩
  · rw [if_neg gu] at q; cases q
theorem noEx_ok {α : Type} {r : Res α} {a : α} {h : Hd} (q : noEx r = .ok a h) : r = .ok a h := by
  cases r with
  | ok b h' => exact q
  | ex x h' => cases q
  | bad => cases q
theorem noEx_ex {α : Type} {r : Res α} {x : Exn} {h : Hd} (q : noEx r = .ex x h) : False := by
  cases r with
  | ok b h' => cases q
  | ex x h' => cases q
  | bad => cases q
/-- the reading of a comprehension follows from its meaning -/
theorem lc_ok {fi : Sd → Hd → Res ItD} {t : ITg} {co : Option Ft} {e : Fe} {vs : List Nat} {σ : L2.St} {H : Hp} {Q : VK} (hv : tgIn t vs = true)
    (p : LE g W (fun τ h => (fi τ h).bind fun I h1 => (noEx (compL I t co e (wipeD τ vs) I.items h1)).bind fun ds h2 => if ds.length ≤ sizeLine then .ok (.ref h2.length) (h2 ++ [.lst ds]) else .bad) σ H Q) :
    tLc (LI g W fi) (gT g.K t) (PTsO co g) (LE g (fun _ _ _ _ => False) e) vs σ H Q := by
  obtain ⟨m, τ, h, a, p⟩ := p
  refine ⟨m, τ, h, a, ?_⟩
  dsimp only at p
  cases qi : fi τ h with
  | ex x h1 => rw [qi] at p; exact p
  | bad => rw [qi] at p; exact p.elim
  | ok I h1 =>
    rw [qi, Res.bind_ok] at p
    intro H1 m1 J x1 r1 wk Da hD
    cases qc : noEx (compL I t co e (wipeD τ vs) I.items h1) with
    | ex x h1 =>
      exact (noEx_ex qc).elim
    | bad => rw [qc] at p; exact p.elim
    | ok ds h2 =>
      rw [qc, Res.bind_ok] at p
      have qc := noEx_ok qc
      by_cases hz : ds.length ≤ sizeLine
      · rw [if_pos hz] at p
        have nD : Da ∉ m1 := r1.notin hD
        -- the invariant
        let Iv : Nat → Hp → Prop := fun i Hc => ∃ mc hc acc accd rest, Ext H1 m1 Hc mc ∧ Rel g Hc mc hc ∧ Da ∉ mc ∧ Hc Da = some (.lst acc) ∧ DVs g.K Hc mc acc accd ∧ compL I t co e (wipeD τ vs) (I.items.drop i) hc = .ok rest h2 ∧ accd ++ rest = ds
        refine ⟨fun i k Hc => k = I.items.length - i ∧ i ≤ I.items.length ∧ Iv i Hc, ⟨I.items.length, by simp, Nat.zero_le _, m1, h1, [], [], ds, .tupNew hD, r1.tupNew hD, nD, upd_same, .nil, qc, rfl⟩, ?_⟩
        rintro i k Hc ⟨rfl, hi, mc, hc, acc, accd, rest, xc, rc, nc, eD, qa, qr, qe⟩
        by_cases hlt : i < I.items.length
        · -- a turn
          have ed : I.items.drop i = I.items[i] :: I.items.drop (i + 1) := List.drop_eq_getElem_cons hlt
          rw [ed] at qr
          obtain ⟨gu, τ1, et, b, hb, eb, tail⟩ := compL_go qr
          refine .inr ⟨wk.go i Hc mc hc xc rc gu hlt, Iv (i + 1), fun H' p' => ⟨I.items.length - (i + 1), by omega, rfl, hlt, p'⟩, fun x H' y => ?_⟩
          obtain ⟨d, e1, qd, x', r'⟩ := wk.yld i Hc mc hc x H' xc rc gu y hlt
          rw [List.getElem?_eq_getElem hlt] at e1
          cases e1
          have nD' := x'.out nc eD (fun _ z => nomatch z)
          have sv : SV g.K H' mc (wipe σ vs) (wipeD τ vs) := (((a.sv.stay (a.rel.stay x1)).stay (r1.stay xc)).stay (rc.stay x')).wipe vs
          refine gT_ok qd sv et _ fun σ2 s2 w2 => ⟨by rw [w2 vs hv]; exact wipe_idem _ _, ?_⟩
          have a2 : At g σ2 H' mc τ1 hc := ⟨r', s2⟩
          -- the test
          have test : ∀ Q2 : Bool → Hp → Prop, (∀ H3 m3, Ext H' mc H3 m3 → Rel g H3 m3 hb → Q2 b H3) → PTsO co g σ2 H' Q2 := fun Q2 hq => by
            cases co with
            | none =>
              have eb' : Res.ok true hc = .ok b hb := eb
              cases eb'
              exact hq H' mc .refl r'
            | some f =>
              have eb' : f τ1 hc = .ok b hb := eb
              refine ⟨mc, τ1, hc, a2, ?_⟩
              rw [eb']
              intro v H3 m3 x3 r3 ev
              cases (show v = b from ev)
              exact hq H3 m3 x3 r3
          refine test _ fun H3 m3 x3 r3 => ?_
          have nD3 := x3.out nD'.1 nD'.2 (fun _ z => nomatch z)
          have xx3 : Ext H1 m1 H3 m3 := (xc.trans x').trans x3
          rcases tail with ⟨rfl, y2, hy, rest', ey, er, rfl⟩ | ⟨rfl, er⟩
          · rw [if_pos rfl]
            refine ⟨m3, τ1, hb, a2.ext x3 r3, ?_⟩
            rw [ey]
            intro v H4 m4 x4 r4 qv
            have nD4 := x4.out nD3.1 nD3.2 (fun _ z => nomatch z)
            have stq : DVs g.K H4 m4 acc accd := ((qa.stay (rc.stay x')).stay (r'.stay x3)).stay (r3.stay x4)
            have hlen : acc.length < sizeLine := by
              rw [qa.length]
              rw [← qe, List.length_append, List.length_cons] at hz
              omega
            refine ⟨acc, nD4.2, hlen, m4, hy, acc ++ [v], accd ++ [y2], rest', ?_, r4.other nD4.1 nD4.2, nD4.1, upd_same, (stq.append (.cons qv .nil)).stay (.other nD4.2), er, by simpa using qe⟩
            have xx4 := xx3.trans x4
            exact ⟨xx4.pre, fun b o nb eo t => by rw [upd_ne (ne_of_none eo hD)]; exact xx4.keep b o nb eo t⟩
          · rw [if_neg Bool.false_ne_true]
            exact ⟨m3, hb, acc, accd, rest, xx3, r3, nD3.1, nD3.2, (qa.stay (rc.stay x')).stay (r'.stay x3), er, qe⟩
        · -- the end
          have ei : i = I.items.length := by omega
          subst ei
          rw [List.drop_length] at qr
          obtain ⟨gu, rfl, rfl⟩ := compL_stop qr
          refine .inl ⟨wk.stop Hc mc h2 xc rc gu, ?_⟩
          rw [List.append_nil] at qe
          subst qe
          have rA : Rel g Hc (mc ++ [Da]) (h2 ++ [.lst accd]) := rc.add nc ⟨acc, eD, qa.stay (rc.stayOf (fun _ _ _ e _ => e) fun i b e => by
            obtain ⟨q, _⟩ := List.getElem?_eq_some_iff.mp e
            rw [List.getElem?_append_left q]; exact e)⟩
          refine p (.ref Da) Hc (mc ++ [Da]) ?_ rA (.ref (by rw [← rc.len]; simp))
          refine x1.trans ?_
          obtain ⟨e', rfl, pe⟩ := xc.pre
          refine ⟨⟨e' ++ [Da], by simp, fun b hb => ?_⟩, xc.keep⟩
          rcases List.mem_append.mp hb with hb | hb
          · exact pe b hb
          · rw [List.mem_singleton.mp hb]; exact ⟨fun o e => by (rw [hD] at e; cases e), nD⟩
      · rw [if_neg hz] at p; exact p.elim
end
end DL

set_option Elab.async false
set_option linter.all false
set_option maxRecDepth 100000
namespace DL
open PySem PySem.Spec PyProof.Rows L2
section
variable {X : Cx} {c : Ck} {g : Gd} {C : Tab} {W : WX}
theorem isLst_of {H : Hp} {m : List Addr} {h : Hd} {v : V} {d : D} (r : Rel g H m h) (q : DV g.K H m v d) (z : isLst h d = true) : ∃ a xs, v = .ref a ∧ H a = some (.lst xs) := by
  cases q with
  | ref e =>
    simp only [isLst] at z
    split at z
    · obtain ⟨xs, q1, _⟩ := r.lst e (by assumption)
      exact ⟨_, xs, rfl, q1⟩
    · cases z
  | _ => cases z
theorem fold_of {e : Expr} (n : notSet e = true) {env : Env} : ∀ x, foldedSetIterable e env x = pure x := by
  intro x
  cases e <;> first | rfl | cases n
theorem mI_notSet {c : Ck} {it : IIt} {tg x : Expr} (h : mI c it tg x = true) : notSet x = true := by
  cases it with
  | seq e => unfold mI at h; exact (and3 h).1
  | rng1 e => unfold mI at h; split at h <;> first | rfl | cases h
  | rng2 a b => unfold mI at h; split at h <;> first | rfl | cases h
  | enum e =>
    unfold mI at h
    have h := (and3 h).2
    split at h <;> first | rfl | cases h
  | zip e f =>
    unfold mI at h
    have h := (and3 h).2
    split at h <;> first | rfl | cases h
mutual
theorem sE : ∀ (ie : IE) (e : Expr) {X : Cx} {c : Ck} {W : WX} {k : Nat}, mE c ie e = true → XOk X c g C W k → PE X e (LE g W (evP C ie).1) ∧ PT X e (LT g W (evP C ie).2)
  | .var i, e, X, c, W, k, hm, ok => by
    unfold mE at hm
    split at hm
    · rename_i x pos
      obtain ⟨hm, h3⟩ := and3 hm
      obtain ⟨h1, h2⟩ := and3 hm
      obtain ⟨d1, d2, d3⟩ := dbg_of h3
      refine both_v ok (PE.weak (pe_var (i := i) (by rw [ok.N]; exact of_decide_eq_true h1) (vis_of ok.sc h2) d1 d2) fun σ H Q ⟨m, τ, h, a, p⟩ => ?_) rfl
      cases q : τ[i]? with
      | none => simp only [evP, mkV, q] at p; exact p.elim
      | some o =>
        cases o with
        | none => simp only [evP, mkV, q] at p; exact p.elim
        | some d =>
          simp only [evP, mkV, q] at p
          obtain ⟨v, e1, r⟩ := a.sv.2 i d q
          exact ⟨v, e1, p.ok a r⟩
    · cases hm
  | .int i, e, X, c, W, k, hm, ok => by
    unfold mE at hm
    split at hm
    · cases of_decide_eq_true hm
      exact both_v ok (PE.weak pe_int fun σ H Q ⟨m, τ, h, a, p⟩ => p.ok a (.int _)) rfl
    · cases hm
  | .str x, e, X, c, W, k, hm, ok => by
    unfold mE at hm
    split at hm
    · cases seq_of hm
      exact both_v ok (PE.weak pe_str fun σ H Q ⟨m, τ, h, a, p⟩ => p.ok a (.str _)) rfl
    · cases hm
  | .bl b, e, X, c, W, k, hm, ok => by
    unfold mE at hm
    split at hm
    · cases (beq_iff_eq.mp hm)
      exact both_v ok (PE.weak pe_bl fun σ H Q ⟨m, τ, h, a, p⟩ => p.ok a (.bl _)) rfl
    · cases hm
  | .non, e, X, c, W, k, hm, ok => by
    unfold mE at hm
    split at hm
    · exact both_v ok (PE.weak pe_non fun σ H Q ⟨m, τ, h, a, p⟩ => p.ok a .non) rfl
    · cases hm
  | .op2 o a b, e, X, c, W, k, hm, ok => by
    unfold mE at hm
    split at hm
    · obtain ⟨hm, h3⟩ := and3 hm
      obtain ⟨h1, h2⟩ := and3 hm
      cases of_decide_eq_true h1
      exact both_v ok (PE.weak (pe_op (o_op2 ok.K o) (sE a _ h2 ok).1 (sE b _ h3 ok).1) fun σ H Q p => LE.two p) rfl
    · cases hm
  | .cmp o a b, e, X, c, W, k, hm, ok => by
    unfold mE at hm
    split at hm
    · obtain ⟨hm, h4⟩ := and3 hm
      obtain ⟨hm, h3⟩ := and3 hm
      obtain ⟨h1, h2⟩ := and3 hm
      cases of_decide_eq_true h1
      have ha := (sE a _ h2 ok).1
      have hb := (sE b _ h3 ok).1
      have ho := o_cmp2 (g := g) ok.K ok.room.units o
      refine ⟨PE.weak (pe_cmpR ho ha hb (behind_of h4)) fun σ H Q p => LE.two p, PT.weak (pt_cmpR ho ha hb (behind_of h4)) fun σ H Q ⟨m, τ, h, a', p⟩ => ?_⟩
      refine LE.two (g := g) (W := W) ?_
      refine (LE.bd (k := fun d _ h1 => match d with | .bl k => Res.ok k h1 | _ => .bad) a' p).mono fun x H1 ⟨m1, τ1, h1, d1, a1, r1, p1⟩ => ?_
      cases r1 with
      | bl k => exact ⟨k, rfl, p1.ok a1 rfl⟩
      | _ => exact p1.elim
    · cases hm
  | .neg a, e, X, c, W, k, hm, ok => by
    unfold mE at hm
    split at hm
    · exact both_v ok (PE.weak (pe_un u_neg (sE a _ hm ok).1) fun σ H Q p => LE.one p) rfl
    · cases hm
  | .nt a, e, X, c, W, k, hm, ok => by
    unfold mE at hm
    split at hm
    · obtain ⟨h1, h2⟩ := sE a _ hm ok
      refine ⟨PE.weak (pe_not h1) fun σ H Q ⟨m, τ, h, a', p⟩ => ?_, PT.weak (pt_not h2) fun σ H Q ⟨m, τ, h, a', p⟩ => ?_⟩
      · have p' : Post g W σ H m (DV g.K) Q (((evP C a).1 τ h).bind fun d h1 => match d with | .bl k => .ok (.bl !k) h1 | _ => .bad) := by
          have e1 : (bolR ((evP C a).1 τ h)).bind (fun c h1 => Res.ok (D.bl !c) h1) = ((evP C a).1 τ h).bind fun d h1 => match d with | .bl k => .ok (.bl !k) h1 | _ => .bad := by
            unfold bolR
            cases (evP C a).1 τ h with
            | ok d h1 => cases d <;> rfl
            | ex x h1 => rfl
            | bad => rfl
          rw [← e1]; exact p
        refine (LE.bd (k := fun d _ h1 => match d with | .bl k => .ok (D.bl !k) h1 | _ => .bad) a' p').mono fun x H1 ⟨m1, τ1, h1, d1, a1, r1, p1⟩ => ?_
        cases r1 with
        | bl k => exact ⟨k, rfl, p1.ok a1 (.bl _)⟩
        | _ => exact p1.elim
      · refine (LT.bd (k := fun c _ h1 => .ok (!c) h1) a' p).mono fun x H1 ⟨m1, τ1, h1, d1, a1, r1, p1⟩ => ?_
        cases (show x = d1 from r1)
        exact p1.ok a1 rfl
    · cases hm
  | .and es, e, X, c, W, k, hm, ok => by
    unfold mE at hm
    split at hm
    · have s := sEs es _ hm ok
      exact ⟨s.andv _, (s.andt _).pt⟩
    · cases hm
  | .or es, e, X, c, W, k, hm, ok => by
    unfold mE at hm
    split at hm
    · have s := sEs es _ hm ok
      exact ⟨s.orv _, (s.ort _).pt⟩
    · cases hm
  | .ife t a b, e, X, c, W, k, hm, ok => by
    unfold mE at hm
    split at hm
    · obtain ⟨hm, h3⟩ := and3 hm
      obtain ⟨h1, h2⟩ := and3 hm
      refine ⟨PE.weak (pe_ifExp (sE t _ h1 ok).2 (sE a _ h2 ok).1 (sE b _ h3 ok).1) fun σ H Q ⟨m, τ, h, a', p⟩ => ?_, never_t⟩
      refine (LT.bd (k := fun k τ h1 => if k = true then (evP C a).1 τ h1 else (evP C b).1 τ h1) a' p).mono fun x H1 ⟨m1, τ1, h1, d1, a1, r1, p1⟩ => ?_
      cases (show x = d1 from r1)
      cases x with
      | true => exact ⟨m1, τ1, h1, a1, p1⟩
      | false => exact ⟨m1, τ1, h1, a1, p1⟩
    · cases hm
  | .tup es, e, X, c, W, k, hm, ok => by
    unfold mE at hm
    split at hm
    · have s := sEs es _ hm ok
      refine both_v ok (PE.weak (pe_tup s.pa) fun σ H Q ⟨m, τ, h, a', p⟩ => ?_) rfl
      refine (LA.bd (k := fun ds _ h1 => if ds.length ≤ sizeLine then .ok (D.tup ds) h1 else .bad) a' p).mono fun x H1 ⟨m1, τ1, h1, d1, a1, r1, p1⟩ => ?_
      by_cases z : d1.length ≤ sizeLine
      · simp only [z, if_true] at p1
        exact ⟨take1 r1 z, fun q hq => PO.newTup (m := m1) (h := h1) p1 a1.rel hq r1⟩
      · simp only [z, if_false] at p1; exact p1.elim
    · cases hm
  | .lst es, e, X, c, W, k, hm, ok => by
    unfold mE at hm
    split at hm
    · have s := sEs es _ hm ok
      refine both_v ok (PE.weak (pe_lst s.pa) fun σ H Q ⟨m, τ, h, a', p⟩ => ?_) rfl
      refine (LA.bd (k := fun ds _ h1 => if ds.length ≤ sizeLine then .ok (D.ref h1.length) (h1 ++ [.lst ds]) else .bad) a' p).mono fun x H1 ⟨m1, τ1, h1, d1, a1, r1, p1⟩ => ?_
      by_cases z : d1.length ≤ sizeLine
      · simp only [z, if_true] at p1
        exact ⟨take1 r1 z, fun q hq => PO.newLst (m := m1) (h := h1) p1 a1.rel hq r1⟩
      · simp only [z, if_false] at p1; exact p1.elim
    · cases hm
  | .ix a i, e, X, c, W, k, hm, ok => by
    unfold mE at hm
    split at hm
    · obtain ⟨hm, h3⟩ := and3 hm
      obtain ⟨h1, h2⟩ := and3 hm
      exact both_v ok (PE.weak (pe_ix (i_ix2 ok.K (by have := ok.room.un; omega)) (sE a _ h1 ok).1 (sE i _ h2 ok).1 (ix_of h3)) fun σ H Q p => LE.two p) rfl
    · cases hm
  | .sl a lo hi, e, X, c, W, k, hm, ok => by
    unfold mE at hm
    split at hm
    · obtain ⟨hm, h3⟩ := and3 hm
      obtain ⟨h1, h2⟩ := and3 hm
      refine both_v ok (PE.weak (pe_slice (s_sl ok.K) (sE a _ h1 ok).1 (sO lo _ h2 ok) (sO hi _ h3 ok)) fun σ H Q ⟨m, τ, h, a', p⟩ => ?_) rfl
      refine (LE.bd (k := fun x τ h1 => (evO C lo τ h1).bind fun l h2 => (evO C hi τ h2).bind fun u h3 => ofO (semSl x l u h3)) a' p).mono fun x H1 ⟨m1, τ1, h1, d1, a1, r1, p1⟩ => ?_
      refine ⟨m1, τ1, h1, a1, (Post.bind a1 p1).mono fun l H2 ⟨m2, h2, d2, a2, st, r2, p2⟩ => ?_⟩
      refine ⟨m2, τ1, h2, a2, (Post.bind a2 p2).mono fun u H3 ⟨m3, h3, d3, a3, st3, r3, p3⟩ => ?_⟩
      cases (show l = d2 from r2)
      cases (show u = d3 from r3)
      exact ⟨m3, h3, d1, a3.rel, (r1.stay st).stay st3, p3.po⟩
    · cases hm
  | .bc b es, e, X, c, W, k, hm, ok => by
    unfold mE at hm
    split at hm
    · rename_i x px ee ees pos
      obtain ⟨hm, h4⟩ := and3 hm
      obtain ⟨hm, h3⟩ := and3 hm
      obtain ⟨h1, h2⟩ := and3 hm
      cases seq_of h1
      have s := sEs es _ h4 ok
      have n1 := s.ns ee List.mem_cons_self
      have n2 : (backTo pos (starEach ees X.env)).any (·.1) = false := any_back fun x hx => s.ns x (List.mem_cons_of_mem _ hx)
      refine both_v ok ?_ rfl
      have fin : ∀ σ H Q, LE g W (evP C (.bc b es)).1 σ H Q → tCB (rC g (semB b)) (LA g W (evL (evPs C es))) σ H Q := fun σ H Q ⟨m, τ, h, a', p⟩ => by
        refine (LA.bd (k := fun ds _ h1 => ofO (semB b ds h1)) a' p).mono fun x H1 ⟨m1, τ1, h1, d1, a1, r1, p1⟩ => ?_
        exact ⟨m1, h1, d1, a1.rel, r1, p1.po⟩
      have fr := ok.free _ h3
      have gl := gl_of ok.sc h2
      have bb := b_all (g := g) ok.K ok.calm (by have := ok.room.un; omega) ok.room.hd b
      cases b with
      | len => exact PE.weak (pe_callB bb gl fr (B.boot .len) s.pa (B.noname _) (B.nodebug _) (star_of n1) n2) fin
      | abs => exact PE.weak (pe_callB bb gl fr (B.boot .abs) s.pa (B.noname _) (B.nodebug _) (star_of n1) n2) fin
      | max2 => exact PE.weak (pe_callB bb gl fr (B.boot .max2) s.pa (B.noname _) (B.nodebug _) (star_of n1) n2) fin
      | min2 => exact PE.weak (pe_callB bb gl fr (B.boot .min2) s.pa (B.noname _) (B.nodebug _) (star_of n1) n2) fin
      | int => exact PE.weak (pe_callTy bb gl fr (B.boot .int) s.pa (B.noname _) (B.nodebug _) (star_of n1) n2) fin
      | tuple => exact PE.weak (pe_callTy bb gl fr (B.boot .tuple) s.pa (B.noname _) (B.nodebug _) (star_of n1) n2) fin
      | list => exact PE.weak (pe_callTy bb gl fr (B.boot .list) s.pa (B.noname _) (B.nodebug _) (star_of n1) n2) fin
      | sum => exact PE.weak (pe_callB bb gl fr (B.boot .sum) s.pa (B.noname _) (B.nodebug _) (star_of n1) n2) fin
      | sorted => exact PE.weak (pe_callB bb gl fr (B.boot .sorted) s.pa (B.noname _) (B.nodebug _) (star_of n1) n2) fin
    · cases hm
  | .isi a t, e, X, c, W, k, hm, ok => by
    unfold mE at hm
    split at hm
    · rename_i x px ea y py pos
      obtain ⟨hm, h9⟩ := and3 hm
      obtain ⟨hm, h8⟩ := and3 hm
      obtain ⟨hm, h7⟩ := and3 hm
      obtain ⟨hm, h6⟩ := and3 hm
      obtain ⟨hm, h5⟩ := and3 hm
      obtain ⟨hm, h4⟩ := and3 hm
      obtain ⟨hm, h3⟩ := and3 hm
      obtain ⟨h1, h2⟩ := and3 hm
      cases seq_of h1
      cases seq_of h4
      have nt : t ≠ .non := of_decide_eq_true h7
      have bt : bootBuiltins t.name = some (.type t.nm) := by
        cases t <;> first | exact absurd rfl nt | decide +kernel
      have pty : PE X (.Name t.name py) (tC (.ty t.nm)) := pe_bltn (gl_of ok.sc h5) (ok.free _ h6) bt rfl (by cases t <;> decide +kernel) (by cases t <;> decide +kernel)
      refine both_v ok (PE.weak (pe_callB call_isi (gl_of ok.sc h2) (ok.free _ h3) (by decide +kernel) (pa_cons (sE a _ h8 ok).1 (pa_cons pty pa_nil (by rfl)) (star_of h9)) (by decide +kernel) (by decide +kernel) (star_of h9) (by rfl)) fun σ H Q ⟨m, τ, h, a', p⟩ => ?_) rfl
      refine (LE.bd (k := fun x _ h1 => match tyD h1 x with | some u => .ok (D.bl (isT u t)) h1 | none => .bad) a' p).mono fun x H1 ⟨m1, τ1, h1, d1, a1, r1, p1⟩ => ?_
      cases q : tyD h1 d1 with
      | none => simp only [q] at p1; exact p1.elim
      | some u =>
        simp only [q] at p1
        have ty := tyD_x a1.rel r1 q
        exact ⟨x, .ty t.nm, .type u.nm, .type t.nm, isT u t, rfl, .ty _, ok.K ▸ ty, kit_ty (kit_isT u t nt), p1.ok a1 (.bl _)⟩
    · cases hm
  | .call f es, e, X, c, W, k, hm, ok => by
    unfold mE at hm
    split at hm
    · rename_i x px ee ees pos
      obtain ⟨hm, h4⟩ := and3 hm
      obtain ⟨hm, h3⟩ := and3 hm
      obtain ⟨h1, h2⟩ := and3 hm
      split at h1
      · rename_i y n hf
        obtain ⟨h5, h6⟩ := and3 h1
        cases seq_of h5
        have hn : n = ees.length + 1 := of_decide_eq_true h6
        obtain ⟨fa, fd, ps, mgx, kp, bd, hl, F⟩ := (ok.fns f _ n hf).ex
        have s := sEs es _ h4 ok
        have n1 := s.ns ee List.mem_cons_self
        have n2 : (backTo pos (starEach ees X.env)).any (·.1) = false := any_back fun x hx => s.ns x (List.mem_cons_of_mem _ hx)
        have gl := gl_of ok.sc h2
        obtain ⟨d1, d2, d3⟩ := dbg_of h3
        refine both_v ok (PE.weak (pe_callSD (E := fun σ => WE W σ) F (ok.room.mono (by omega)) gl mgx kp bd .nil (fun σ => passAt ok.takes σ) s.pa d1 (star_of n1) n2) fun σ H Q ⟨m, τ, h, a', p⟩ => ?_) rfl
        refine (LA.bd (k := fun ds _ h1 => C f ds h1) a' p).mono fun xs H1 ⟨m1, τ1, h1, d1, a1, r1, p1⟩ => ?_
        rw [List.append_nil]
        by_cases hnl : d1.length = n
        · refine ⟨m1, h1, d1, a1.rel, r1, hnl, ?_⟩
          cases q : C f d1 h1 with
          | ok d h' => rw [q] at p1; exact p1
          | ex x h' => rw [q] at p1; exact p1
          | bad => rw [q] at p1; exact p1.elim
        · rw [(ok.fns f _ n hf).len d1 h1 hnl] at p1; exact p1.elim
      · cases h1
    · cases hm
  | .mth .append o es, e, X, c, W, k, hm, ok => by
    unfold mE at hm
    split at hm
    · rename_i eo x ap ee cp
      obtain ⟨hm, h5⟩ := and3 hm
      obtain ⟨hm, h4⟩ := and3 hm
      obtain ⟨hm, h3⟩ := and3 hm
      obtain ⟨h1, h2⟩ := and3 hm
      cases seq_of h1
      have s := sEs es _ h5 ok
      have n1 := s.ns ee List.mem_cons_self
      have hl : (ap.endLine == cp.line) = true := by rw [of_decide_eq_true h3]; simp
      refine both_v ok (PE.weak (pe_bm PySem.F.plainAttrs_list PySem.F.slot_list_append PySem.F.type_list_append mt_append (sE o _ h4 ok).1 s.pa (base_of h2) (by rw [star_of n1]; rfl) hl (star_of n1) rfl) fun σ H Q ⟨m, τ, h, a', p⟩ => ?_) rfl
      refine (LE.bd (k := fun x τ h1 => if isLst h1 x = true then (evL (evPs C es) τ h1).bind fun ds h2 => ofO (semM .append x ds h2) else .bad) a' p).mono fun x H1 ⟨m1, τ1, h1, d1, a1, r1, p1⟩ => ?_
      by_cases z : isLst h1 d1 = true
      · rw [if_pos z] at p1
        obtain ⟨b, xs, hx, hb⟩ := isLst_of a1.rel r1 z
        subst hx
        refine ⟨.inl ⟨rfl, _, .inl (.inl hb)⟩, m1, τ1, h1, a1, (Post.bind a1 p1).mono fun ys H2 ⟨m2, h2, d2, a2, st, r2, p2⟩ => ?_⟩
        match d2, r2, p2 with
        | [], _, p2 => exact p2.elim
        | _ :: _ :: _, _, p2 => exact p2.elim
        | [d], r2, p2 =>
          obtain ⟨y, rfl, ry⟩ := r2.one
          have p3 : DL.PO g H2 m2 Q (appendD d1 d h2) := p2.po
          have r1' := r1.stay st
          cases r1' with
          | ref e1 =>
            simp only [appendD] at p3
            split at p3
            · rename_i e2
              split at p3
              · rename_i hz
                obtain ⟨xs2, q1, q2⟩ := a2.rel.lst e1 e2
                rw [← q2.length] at hz
                refine ⟨b, xs2, y, rfl, rfl, q1, hz, ?_⟩
                have hm2 : b ∈ m2 := List.mem_of_getElem? e1
                refine p3 _ _ _ (.write hm2) (a2.rel.write e1 ⟨_, upd_same, (q2.append (.cons ry .nil)).stay (a2.rel.stay (.write hm2))⟩) .non
              · exact p3.elim
            · exact p3.elim
          | _ => exact p3.elim
      · rw [if_neg z] at p1; exact p1.elim
    · cases hm
  | .comp t vs it co e, x, X, c, W, k, hm, ok => by
    unfold mE at hm
    split at hm
    · rename_i elt tg iter ifs scope pos
      obtain ⟨hm, h5⟩ := and3 hm
      obtain ⟨hm, h4⟩ := and3 hm
      obtain ⟨hm, h3⟩ := and3 hm
      obtain ⟨h1, h2⟩ := and3 hm
      have hv : tgIn t vs = true := of_decide_eq_true h2
      unfold mComp at h3
      obtain ⟨h3, h8⟩ := and3 h3
      obtain ⟨h6, h7⟩ := and3 h3
      have b := blkOk_by h6
      have ev : (ownOf c.N vs).map (·.2) = vs := of_decide_eq_true h7
      have hi := sI it tg iter h1 ok
      have nset := mI_notSet h1
      have bX : BlkOk X.N X.env.scope scope (ownOf c.N vs) := by
        rw [ok.N]
        exact ⟨b.kind, b.uniq, b.ix, fun y hy e => by rw [ok.sc]; exact b.free y hy e, b.own⟩
      have blk := fun s H Ca cl fp => blk_ok ok b s H Ca cl fp
      refine both_v ok (PE.weak (pe_lc ok.calm ok.nd hi bX (fun s H Ca cl fp => p_tg (blk s H Ca cl fp) h8) (fun s H Ca cl fp => sC co ifs h4 (blk s H Ca cl fp)) (fun s H Ca cl fp => (sE e elt h5 (blk s H Ca cl fp)).1) (fold_of nset)) fun σ H Q p => ?_) rfl
      rw [ev]
      exact lc_ok hv p
    · cases hm
  | .sortk v e f, x, X, c, W, k, hm, ok => by
    unfold mE at hm
    split at hm
    · rename_i y py ea kx z pz kp pos
      obtain ⟨hm, h9⟩ := and3 hm
      obtain ⟨hm, h8⟩ := and3 hm
      obtain ⟨hm, h7⟩ := and3 hm
      obtain ⟨hm, h6⟩ := and3 hm
      obtain ⟨hm, h5⟩ := and3 hm
      obtain ⟨hm, h4⟩ := and3 hm
      obtain ⟨hm, h3⟩ := and3 hm
      obtain ⟨h1, h2⟩ := and3 hm
      cases seq_of h1
      cases seq_of h4
      split at h5
      · rename_i q n hf
        obtain ⟨h10, h11⟩ := and3 h5
        cases seq_of h10
        cases of_decide_eq_true h11
        obtain ⟨fa, fd, ps, mgx, kp', bd, hl, F⟩ := (ok.fns f _ 1 hf).ex
        have src : PE X ea (LSrc g W v (evP C e).1) := by
          cases v with
          | false => exact PE.src0 (sE e _ h8 ok).1
          | true =>
            dsimp only at h8
            split at h8
            · obtain ⟨h8, h8d⟩ := and3 h8
              obtain ⟨h8, h8c⟩ := and3 h8
              obtain ⟨h8a, h8b⟩ := and3 h8
              cases seq_of h8a
              exact PE.src1 (sE e _ h8d ok).1 h8b (by rw [of_decide_eq_true h8c]; simp)
            · cases h8
        exact both_v ok (pe_sorted (k := k) (F := fun d h => C f [d] h) ok.K (ok.room.mono (by omega)) (gl_of ok.sc h2) (ok.free _ h3) src h9 fun pins s σ H m h Q I r q => k_def (ok.room.mono (by omega)) F bd hl (gl_of ok.sc h6) mgx (dbg_of h7).1 pins s σ H m h Q I r q) rfl
      · cases h5
    · cases hm
  | .sortl e b, x, X, c, W, k, hm, ok => by
    unfold mE at hm
    split at hm
    · rename_i y py ea kx params body scope lp kp pos
      obtain ⟨hm, h8⟩ := and3 hm
      obtain ⟨hm, h7⟩ := and3 hm
      obtain ⟨hm, h6⟩ := and3 hm
      obtain ⟨hm, h5⟩ := and3 hm
      obtain ⟨hm, h4⟩ := and3 hm
      obtain ⟨hm, h3⟩ := and3 hm
      obtain ⟨h1, h2⟩ := and3 hm
      cases seq_of h1
      cases seq_of h4
      split at h8
      · rename_i a ha
        obtain ⟨h9, h10⟩ := and3 h8
        exact both_v ok (pe_sorted (k := k) (F := fun d h => (evP C b).1 [some d] h) ok.K (ok.room.mono (by omega)) (gl_of ok.sc h2) (ok.free _ h3) (PE.src0 (sE e _ h6 ok).1) h7 fun pins s σ H m h Q I r q => k_lam ok h5 ha (fnScB_ok h9) (fun X' W' ok' => (sE b _ h10 ok').1) pins s σ H m h Q I r q) rfl
      · cases h8
    · cases hm
  | .gint x i, e, X, c, W, k, hm, ok => by
    unfold mE at hm
    split at hm
    · rename_i y pos
      obtain ⟨hm, h4⟩ := and3 hm
      obtain ⟨hm, h3⟩ := and3 hm
      obtain ⟨h1, h2⟩ := and3 hm
      cases seq_of h1
      obtain ⟨tk, e1⟩ := ok.gf.gints _ _ (of_decide_eq_true h4)
      exact both_v ok (PE.weak (pe_glob (v := .int i) (gl_of ok.sc h2) e1 ⟨tk, rfl⟩ (dbg_of h3).1) fun σ H Q ⟨m, τ, h, a, p⟩ => p.ok a (.int _)) rfl
    · cases hm
  | .dnew, e, X, c, W, k, hm, ok => by
    unfold mE at hm
    split at hm
    · refine both_v ok (PE.weak pe_dnewK fun σ H Q ⟨m, τ, h, a, p⟩ pp hp => ?_) rfl
      have r2 : Rel g (upd H pp (.dK [])) (m ++ [pp]) (h ++ [.dct []]) := a.rel.new hp ⟨[], upd_same, rfl, .nil⟩
      exact p (.ref pp) _ _ (.new hp (a.rel.notin hp)) r2 (.ref (by rw [← a.rel.len]; simp))
    · cases hm
theorem sC : ∀ (co : IO) (l : List Expr) {X : Cx} {c : Ck} {k : Nat}, mCs c co l = true → XOk X c g C (fun _ _ _ _ => False) k → PTs X l (PTsO (evC C co) g)
  | .no, l, X, c, k, hm, ok => by
    unfold mCs at hm
    split at hm
    · exact pts_nil
    · cases hm
  | .yes e, l, X, c, k, hm, ok => by
    unfold mCs at hm
    split at hm
    · exact pts_one (sE e _ hm ok).2
    · cases hm
theorem sI : ∀ (it : IIt) (tg x : Expr) {X : Cx} {c : Ck} {W : WX} {k : Nat}, mI c it tg x = true → XOk X c g C W k → PI X tg x (LI g W (evI C it))
  | .seq e, tg, x, X, c, W, k, hm, ok => by
    unfold mI at hm
    obtain ⟨h1, h2⟩ := and3 hm
    exact p_seq ok.K (sE e _ h2 ok).1
  | .rng1 e, tg, x, X, c, W, k, hm, ok => by
    unfold mI at hm
    split at hm
    · obtain ⟨hm, h5⟩ := and3 hm
      obtain ⟨hm, h4⟩ := and3 hm
      obtain ⟨hm, h3⟩ := and3 hm
      obtain ⟨h1, h2⟩ := and3 hm
      cases seq_of h1
      exact p_rng1 (gl_of ok.sc h2) (ok.free _ h3) (sE e _ h4 ok).1 h5
    · cases hm
  | .rng2 e f, tg, x, X, c, W, k, hm, ok => by
    unfold mI at hm
    split at hm
    · obtain ⟨hm, h5⟩ := and3 hm
      obtain ⟨hm, h4⟩ := and3 hm
      obtain ⟨hm, h3⟩ := and3 hm
      obtain ⟨h1, h2⟩ := and3 hm
      cases seq_of h1
      obtain ⟨h6, h7⟩ := and3 h4
      obtain ⟨h8, h9⟩ := and3 h5
      exact p_rng2 (gl_of ok.sc h2) (ok.free _ h3) (sE e _ h6 ok).1 (sE f _ h8 ok).1 h7 h9
    · cases hm
  | .enum e, tg, x, X, c, W, k, hm, ok => by
    unfold mI at hm
    have h00 := (and3 hm).1
    have h01 := (and3 hm).2
    clear hm
    obtain ⟨elts, kk, tpos, rfl⟩ : ∃ elts kk tpos, tg = .Tuple elts kk tpos := by
      cases tg <;> first | exact ⟨_, _, _, rfl⟩ | cases h00
    split at h01
    · obtain ⟨h01, h5⟩ := and3 h01
      obtain ⟨h01, h4⟩ := and3 h01
      obtain ⟨h01, h3⟩ := and3 h01
      obtain ⟨h1, h2⟩ := and3 h01
      cases seq_of h1
      exact p_enum ok.K (gl_of ok.sc h2) (ok.free _ h3) (sE e _ h4 ok).1 h5
    · cases h01
  | .zip e f, tg, x, X, c, W, k, hm, ok => by
    unfold mI at hm
    have h00 := (and3 hm).1
    have h01 := (and3 hm).2
    clear hm
    obtain ⟨elts, kk, tpos, rfl⟩ : ∃ elts kk tpos, tg = .Tuple elts kk tpos := by
      cases tg <;> first | exact ⟨_, _, _, rfl⟩ | cases h00
    split at h01
    · obtain ⟨h01, h5⟩ := and3 h01
      obtain ⟨h01, h4⟩ := and3 h01
      obtain ⟨h01, h3⟩ := and3 h01
      obtain ⟨h1, h2⟩ := and3 h01
      cases seq_of h1
      obtain ⟨h6, h7⟩ := and3 h4
      obtain ⟨h8, h9⟩ := and3 h5
      exact p_zip ok.K (gl_of ok.sc h2) (ok.free _ h3) (sE e _ h6 ok).1 (sE f _ h8 ok).1 h7 h9
    · cases h01
theorem sEs : ∀ (es : IEs) (l : List Expr) {X : Cx} {c : Ck} {W : WX} {k : Nat}, mEs c es l = true → XOk X c g C W k → SEs X g W l (evPs C es)
  | .nil, l, X, c, W, k, hm, ok => by
    unfold mEs at hm
    split at hm
    · exact ses_nil
    · cases hm
  | .cons e es, l, X, c, W, k, hm, ok => by
    unfold mEs at hm
    split at hm
    · obtain ⟨hm, h3⟩ := and3 hm
      obtain ⟨h1, h2⟩ := and3 hm
      obtain ⟨q1, q2⟩ := sE e _ h1 ok
      exact ses_cons q1 q2 h2 (sEs es _ h3 ok)
    · cases hm
theorem sO : ∀ (o : IO) (eo : Option Expr) {X : Cx} {c : Ck} {W : WX} {k : Nat}, mO c o eo = true → XOk X c g C W k → L2.PO X eo (LO g W (evO C o))
  | .no, eo, X, c, W, k, hm, ok => by
    unfold mO at hm
    split at hm
    · exact ⟨fun pins s σ H Q I ⟨m, τ, h, a, p⟩ => po_none.run pins s σ H Q I (show Q none H from p.ok a rfl)⟩
    · cases hm
  | .yes e, eo, X, c, W, k, hm, ok => by
    unfold mO at hm
    split at hm
    · refine ⟨fun pins s σ H Q I ⟨m, τ, h, a, p⟩ => (po_some (sE e _ hm ok).1).run pins s σ H Q I ?_⟩
      refine (LE.bd (k := fun d _ h1 => match d with | .int i => .ok (some i) h1 | _ => .bad) a p).mono fun x H1 ⟨m1, τ1, h1, d1, a1, r1, p1⟩ => ?_
      cases r1 with
      | int i => exact ⟨i, rfl, p1.ok a1 rfl⟩
      | _ => exact p1.elim
    · cases hm
end
end
end DL

set_option Elab.async false
set_option linter.all false
set_option maxRecDepth 100000
namespace DL
open PySem PySem.Spec PyProof.Rows L2

inductive FL where
  | nx (τ : Sd) | rt (d : D) | bk (τ : Sd) | ct (τ : Sd)
inductive RS where
  | ok (f : FL) (h : Hd) | ex (x : Exn) (τ : Sd) (h : Hd) | bad
abbrev Fs := Sd → Hd → RS
def Res.st {α : Type} (r : Res α) (τ : Sd) (k : α → Hd → RS) : RS := match r with
  | .ok a h => k a h
  | .ex x h => .ex x τ h
  | .bad => .bad
@[simp] theorem Res.st_ok {α : Type} (a : α) (h : Hd) (τ : Sd) (k : α → Hd → RS) : (Res.ok a h).st τ k = k a h := rfl
@[simp] theorem Res.st_ex {α : Type} (x : Exn) (h : Hd) (τ : Sd) (k : α → Hd → RS) : (Res.ex x h : Res α).st τ k = .ex x τ h := rfl
@[simp] theorem Res.st_bad {α : Type} (τ : Sd) (k : α → Hd → RS) : (Res.bad : Res α).st τ k = .bad := rfl
def RS.seq (r : RS) (k : Fs) : RS := match r with
  | .ok (.nx τ) h => k τ h
  | r => r
@[simp] theorem RS.seq_nx (τ : Sd) (h : Hd) (k : Fs) : (RS.ok (.nx τ) h).seq k = k τ h := rfl
@[simp] theorem RS.seq_rt (d : D) (h : Hd) (k : Fs) : (RS.ok (.rt d) h).seq k = .ok (.rt d) h := rfl
@[simp] theorem RS.seq_bk (τ : Sd) (h : Hd) (k : Fs) : (RS.ok (.bk τ) h).seq k = .ok (.bk τ) h := rfl
@[simp] theorem RS.seq_ct (τ : Sd) (h : Hd) (k : Fs) : (RS.ok (.ct τ) h).seq k = .ok (.ct τ) h := rfl
@[simp] theorem RS.seq_ex (x : Exn) (τ : Sd) (h : Hd) (k : Fs) : (RS.ex x τ h).seq k = .ex x τ h := rfl
@[simp] theorem RS.seq_bad (k : Fs) : RS.bad.seq k = .bad := rfl
/-- a loop's turn: what follows it -/
def RS.turn (r : RS) (k : Fs) : RS := match r with
  | .ok (.nx τ) h => k τ h
  | .ok (.ct τ) h => k τ h
  | .ok (.bk τ) h => .ok (.nx τ) h
  | r => r
@[simp] theorem RS.turn_nx (τ : Sd) (h : Hd) (k : Fs) : (RS.ok (.nx τ) h).turn k = k τ h := rfl
@[simp] theorem RS.turn_ct (τ : Sd) (h : Hd) (k : Fs) : (RS.ok (.ct τ) h).turn k = k τ h := rfl
@[simp] theorem RS.turn_bk (τ : Sd) (h : Hd) (k : Fs) : (RS.ok (.bk τ) h).turn k = .ok (.nx τ) h := rfl
@[simp] theorem RS.turn_rt (d : D) (h : Hd) (k : Fs) : (RS.ok (.rt d) h).turn k = .ok (.rt d) h := rfl
@[simp] theorem RS.turn_ex (x : Exn) (τ : Sd) (h : Hd) (k : Fs) : (RS.ex x τ h).turn k = .ex x τ h := rfl
@[simp] theorem RS.turn_bad (k : Fs) : RS.bad.turn k = .bad := rfl
open Classical in
noncomputable def forL (I : ItD) (t : ITg) (b : Fs) : List D → Fs
  | [], τ, h => if I.guard h then .ok (.nx τ) h else .bad
  | d :: r, τ, h => if I.guard h then
      match setTg t d τ with
      | none => .bad
      | some τ1 => (b τ1 h).turn (forL I t b r)
    else .bad
def whileN (c : Ft) (b : Fs) : Nat → Sd → Hd → Option RS
  | 0, _, _ => none
  | n + 1, τ, h => match c τ h with
    | .ok true h1 => match b τ h1 with
      | .ok (.nx τ2) h2 => whileN c b n τ2 h2
      | .ok (.ct τ2) h2 => whileN c b n τ2 h2
      | .ok (.bk τ2) h2 => some (.ok (.nx τ2) h2)
      | r => some r
    | .ok false h1 => some (.ok (.nx τ) h1)
    | .ex x h1 => some (.ex x τ h1)
    | .bad => some .bad
open Classical in
noncomputable def whileD (c : Ft) (b : Fs) (τ : Sd) (h : Hd) : RS := if p : ∃ r n, whileN c b n τ h = some r then choose p else .bad
theorem whileN_mono {c : Ft} {b : Fs} : ∀ {n : Nat} {τ : Sd} {h : Hd} {r : RS} (k : Nat), whileN c b n τ h = some r → whileN c b (n + k) τ h = some r
  | 0, _, _, _, _, e => by cases e
  | n + 1, τ, h, r, k, e => by
    have e1 : n + 1 + k = (n + k) + 1 := by omega
    rw [e1]
    unfold whileN at e ⊢
    cases q : c τ h with
    | bad => rw [q] at e; exact e
    | ex x h1 => rw [q] at e; exact e
    | ok a h1 =>
      rw [q] at e
      cases a with
      | false => exact e
      | true =>
        dsimp only at e ⊢
        cases q2 : b τ h1 with
        | bad => rw [q2] at e; exact e
        | ex x τ2 h2 => rw [q2] at e; exact e
        | ok f h2 =>
          rw [q2] at e
          cases f with
          | nx τ2 => exact whileN_mono k e
          | ct τ2 => exact whileN_mono k e
          | bk τ2 => exact e
          | rt d => exact e
theorem whileD_of {c : Ft} {b : Fs} {n : Nat} {τ : Sd} {h : Hd} {r : RS} (e : whileN c b n τ h = some r) : whileD c b τ h = r := by
  have p : ∃ r n, whileN c b n τ h = some r := ⟨r, n, e⟩
  unfold whileD
  rw [dif_pos p]
  obtain ⟨n', e'⟩ := Classical.choose_spec p
  have a1 := whileN_mono n' e
  have a2 := whileN_mono n e'
  rw [Nat.add_comm] at a2
  rw [a1] at a2
  exact (Option.some.inj a2).symm
theorem whileD_has {c : Ft} {b : Fs} {τ : Sd} {h : Hd} : whileD c b τ h = .bad ∨ ∃ n, whileN c b n τ h = some (whileD c b τ h) := by
  by_cases p : ∃ r n, whileN c b n τ h = some r
  · obtain ⟨r, n, e⟩ := p
    right
    rw [whileD_of e]
    exact ⟨n, e⟩
  · left
    unfold whileD
    rw [dif_neg p]
/-- a while whose test is false -/
theorem whileD_no {c : Ft} {b : Fs} {τ : Sd} {h h1 : Hd} (e : c τ h = .ok false h1) : whileD c b τ h = .ok (.nx τ) h1 := whileD_of (n := 1) (by unfold whileN; rw [e])
/-- a while's turn -/
theorem whileD_go {c : Ft} {b : Fs} {τ : Sd} {h h1 : Hd} (e : c τ h = .ok true h1) {r : RS} (w : (b τ h1).turn (whileD c b) = r) (hr : r ≠ .bad) : whileD c b τ h = r := by
  cases q : b τ h1 with
  | bad => rw [q] at w; exact absurd w.symm hr
  | ex x τ2 h2 => rw [q] at w; cases w; exact whileD_of (n := 1) (by unfold whileN; rw [e]; dsimp only; rw [q]; rfl)
  | ok f h2 =>
    rw [q] at w
    cases f with
    | rt d => cases w; exact whileD_of (n := 1) (by unfold whileN; rw [e]; dsimp only; rw [q]; rfl)
    | bk τ2 => cases w; exact whileD_of (n := 1) (by unfold whileN; rw [e]; dsimp only; rw [q]; rfl)
    | nx τ2 =>
      have w' : whileD c b τ2 h2 = r := w
      rcases whileD_has (c := c) (b := b) (τ := τ2) (h := h2) with z | ⟨n, z⟩
      · rw [z] at w'; exact absurd w'.symm hr
      · rw [w'] at z
        exact whileD_of (n := n + 1) (by unfold whileN; rw [e]; dsimp only; rw [q]; exact z)
    | ct τ2 =>
      have w' : whileD c b τ2 h2 = r := w
      rcases whileD_has (c := c) (b := b) (τ := τ2) (h := h2) with z | ⟨n, z⟩
      · rw [z] at w'; exact absurd w'.symm hr
      · rw [w'] at z
        exact whileD_of (n := n + 1) (by unfold whileN; rw [e]; dsimp only; rw [q]; exact z)

inductive SX where
  | str (x : Str) | int (i : Int) | bl (b : Bool) | non | fld (i : Nat) (f : Str) (cs : List Nat) | isi (i : Nat) (y : Str) (ans : List (Nat × Bool)) | and2 (a b : SX)
inductive SU where
  | ret (es : List SX) | pas
/-- a clause: the class's name, its answer for each class that may come, the name's slot, the suite -/
structure HD where
  y : Str
  ans : List (Nat × Bool)
  slot : Option Nat
  su : SU
def evX (x : Exn) : SX → Option D
  | .str z => some (.str z)
  | .int i => some (.int i)
  | .bl b => some (.bl b)
  | .non => some .non
  | .fld _ f cs => if cs.contains x.cls then x.fs.lookup f else none
  | .isi _ _ ans => (ans.lookup x.cls).map D.bl
  | .and2 a b => match evX x a with
    | some (.bl true) => evX x b
    | some (.bl false) => some (.bl false)
    | _ => none
def evXs (x : Exn) : List SX → Option (List D)
  | [] => some []
  | e :: es => match evX x e with
    | some d => (evXs x es).map (d :: ·)
    | none => none
/-- what a suite hands back, or none if it ends -/
def evU (x : Exn) : SU → Option (Option D)
  | .ret es => match evXs x es with
    | some ds => if ds.length ≤ sizeLine then some (some (.tup ds)) else none
    | none => none
  | .pas => some none
def wipeO (τ : Sd) : Option Nat → Sd
  | none => τ
  | some i => τ.set i none
def evH (x : Exn) (τ : Sd) (h : Hd) : List HD → RS
  | [] => .ex x τ h
  | d :: r => match d.ans.lookup x.cls with
    | some true => (match evU x d.su with
      | some (some v) => .ok (.rt v) h
      | some none => .ok (.nx (wipeO τ d.slot)) h
      | none => .bad)
    | some false => evH x τ h r
    | none => .bad
def RS.hand (r : RS) (hs : List HD) : RS := match r with
  | .ex x τ h => evH x τ h hs
  | r => r
mutual
inductive IS where
  | expr (e : IE) | ret (e : IE) | retN | set (i : Nat) (e : IE) | setc (i : Nat) (t : ITg) (vs : List Nat) (it : IIt) (c : IO) (e : IE)
  | unp (is : List Nat) (e : IE) | setix (o i e : IE) | aug (i : Nat) (o : O2) (e : IE)
  | iff (c : IE) (a b : ISs) | whil (c : IE) (b : ISs) | forin (t : ITg) (it : IIt) (b : ISs) | brk | cont | pass
  | rais (n : Nat) | never | tryx (b : ISs) (hs : List HD)
inductive ISs where
  | nil | cons (s : IS) (ss : ISs)
end

def semIp : O2 → D → D → Hd → So
  | .add, .int i, .int j, h => some (.int (i + j), h)
  | .add, .str a, .str b, h => if a.length + b.length ≤ sizeLine then some (.str (a ++ b), h) else none
  | .sub, .int i, .int j, h => some (.int (i - j), h)
  | _, _, _, _ => none
mutual
noncomputable def evS (C : Tab) : IS → Fs
  | .expr e => fun τ h => ((evP C e).1 τ h).st τ fun _ h1 => .ok (.nx τ) h1
  | .ret e => fun τ h => ((evP C e).1 τ h).st τ fun d h1 => .ok (.rt d) h1
  | .retN => fun _ h => .ok (.rt .non) h
  | .set i e => fun τ h => ((evP C e).1 τ h).st τ fun d h1 => .ok (.nx (τ.set i (some d))) h1
  | .setc i t vs it c e => fun τ h => ((evP C (.comp t vs it c e)).1 τ h).st τ fun d h1 => .ok (.nx (τ.set i (some d))) h1
  | .unp is e => fun τ h => ((evP C e).1 τ h).st τ fun d h1 => match setTg (.tup is) d τ with | some τ' => .ok (.nx τ') h1 | none => .bad
  | .setix o i e => fun τ h => ((evP C e).1 τ h).st τ fun d h1 => ((evP C o).1 τ h1).st τ fun x h2 => ((evP C i).1 τ h2).st τ fun y h3 => match setD2 x y d h3 with | some h4 => .ok (.nx τ) h4 | none => .bad
  | .aug i o e => fun τ h => match τ[i]? with
    | some (some x) => ((evP C e).1 τ h).st τ fun d h1 => match semIp o x d h1 with | some (z, h2) => .ok (.nx (τ.set i (some z))) h2 | none => .bad
    | _ => .bad
  | .iff c a b => fun τ h => ((evP C c).2 τ h).st τ fun k h1 => if k = true then evSs C a τ h1 else evSs C b τ h1
  | .whil c b => whileD (evP C c).2 (evSs C b)
  | .forin t it b => fun τ h => (evI C it τ h).st τ fun I h1 => forL I t (evSs C b) I.items τ h1
  | .brk => fun τ h => .ok (.bk τ) h
  | .cont => fun τ h => .ok (.ct τ) h
  | .pass => fun τ h => .ok (.nx τ) h
  | .rais n => fun τ h => .ex ⟨n, []⟩ τ h
  | .never => fun _ _ => .bad
  | .tryx b hs => fun τ h => (evSs C b τ h).hand hs
noncomputable def evSs (C : Tab) : ISs → Fs
  | .nil => fun τ h => .ok (.nx τ) h
  | .cons s ss => fun τ h => (evS C s τ h).seq (evSs C ss)
end

def notComp : Expr → Bool | .ListComp _ _ _ _ => false | .SetComp _ _ _ _ => false | .DictComp _ _ _ _ _ => false | _ => true
def notTup : Expr → Bool | .Tuple _ _ _ => false | _ => true
def isComp : Expr → Bool | .ListComp _ _ _ _ => true | _ => false
/-- a name's store that swaps nothing -/
def swB (c : Ck) (x : Str) (e : Expr) : Bool := notComp e || (isComp e && (match c.sc.names.lookup x with | some .local => false | _ => true))
def ansB (l : List ((Nat × Str) × Bool)) (y : Str) (ans : List (Nat × Bool)) : Bool := ans.all fun p => decide (l.lookup (p.1, y) = some p.2)
def mVar (c : Ck) (i : Nat) : Expr → Bool
  | .Name x _ => decide (c.N[i]? = some x) && visB c.sc x && dbgB x
  | _ => false
def mX (c : Ck) (slot : Option Nat) : SX → Expr → Bool
  | .str x => fun e => match e with | .Constant (.str y) _ _ => seqB x y | _ => false
  | .int i => fun e => match e with | .Constant (.int j) _ _ => decide (i = j) | _ => false
  | .bl b => fun e => match e with | .Constant (.bool d) _ _ => b == d | _ => false
  | .non => fun e => match e with | .Constant .none _ _ => true | _ => false
  | .fld i f cs => fun e => match e with | .Attribute (.Name x px) g _ => decide (slot = some i) && seqB f g && mVar c i (.Name x px) && cs.all (fun n => c.tb.efs.contains (n, f)) | _ => false
  | .isi i y ans => fun e => match e with | .Call (.Name z _) [.Name x px, .Name q _] [] _ => decide (slot = some i) && seqB "isinstance" z && glB c.sc z && c.free.contains z && mVar c i (.Name x px) && seqB y q && glB c.sc q && ansB c.tb.isx y ans | _ => false
  | .and2 a b => fun e => match e with | .BoolOp .And [ea, eb] _ => mX c slot a ea && mX c slot b eb | _ => false
def mXs (c : Ck) (slot : Option Nat) : List SX → List Expr → Bool
  | [], [] => true
  | e :: es, x :: xs => mX c slot e x && notStar x && mXs c slot es xs
  | _, _ => false
def mU (c : Ck) (slot : Option Nat) : SU → List Stmt → Bool
  | .ret es => fun l => match l with | [.Return (some (.Tuple ees _ _)) _] => mXs c slot es ees | _ => false
  | .pas => fun l => match l with | [.Pass _] => true | _ => false
def mH (c : Ck) (d : HD) : ExceptHandler → Bool
  | .ExceptHandler (some (.Name y _)) none sts _ => decide (d.slot = none) && seqB d.y y && glB c.sc y && dbgB y && ansB c.tb.exm d.y d.ans && !d.ans.isEmpty && mU c d.slot d.su sts
  | .ExceptHandler (some (.Name y _)) (some n) sts _ => (match d.slot with | some i => decide (c.N[i]? = some n) && decide (c.sc.names.lookup n = some .local) | none => false) && seqB d.y y && glB c.sc y && dbgB y && ansB c.tb.exm d.y d.ans && !d.ans.isEmpty && mU c d.slot d.su sts
  | _ => false
def mHs (c : Ck) : List HD → List ExceptHandler → Bool
  | [], [] => true
  | d :: ds, x :: xs => mH c d x && mHs c ds xs
  | _, _ => false
mutual
def mS (c : Ck) : IS → Stmt → Bool
  | .expr e => fun s => match s with | .Expr x _ => notComp x && mE c e x | _ => false
  | .ret e => fun s => match s with | .Return (some x) _ => mE c e x | _ => false
  | .retN => fun s => match s with | .Return none _ => true | _ => false
  | .set i e => fun s => match s with | .Assign [.Name x px] ee _ => mNm c i (.Name x px) && mE c e ee && swB c x ee | _ => false
  | .setc i t vs it co e => fun s => match s with
    | .Assign [.Name x px] (.ListComp elt [⟨tg, iter, ifs, 0⟩] scope pos) sp => decide (c.N[i]? = some x) && decide (c.sc.names.lookup x = some .local) && (px.line == pos.line) && !(scope.names.any fun (n, k) => n == x && (k == .local || k == .cell)) &&
      (mI c it tg iter && decide (tgIn t vs = true) && mComp c t vs tg scope && mCs (c.blk scope) co ifs && mE (c.blk scope) e elt)
    | _ => false
  | .unp is e => fun s => match s with | .Assign [.Tuple es _ _] ee _ => mNms c is es && mE c e ee && notTup ee && notComp ee | _ => false
  | .setix o i e => fun s => match s with | .Assign [.Subscript eo ei _] ee _ => mE c o eo && mE c i ei && mE c e ee && notSlice ei && notComp ee | _ => false
  | .aug i o e => fun s => match s with | .AugAssign (.Name x px) eo ee _ => mNm c i (.Name x px) && decide (o.op = eo) && mE c e ee | _ => false
  | .iff t a b => fun s => match s with | .If et ea eb _ => mE c t et && mSs c a ea && mSs c b eb | _ => false
  | .whil t b => fun s => match s with | .While et eb [] _ => mE c t et && mSs c b eb | _ => false
  | .forin t it b => fun s => match s with | .For tg iter eb [] _ => mTg c t tg && mI c it tg iter && mSs c b eb | _ => false
  | .brk => fun s => match s with | .Break _ => true | _ => false
  | .cont => fun s => match s with | .Continue _ => true | _ => false
  | .pass => fun s => match s with | .Pass _ => true | _ => false
  | .rais n => fun s => match s with | .Raise (some (.Call (.Name x _) [.Constant (.str _) _ _] [] _)) none _ => decide (c.tb.excs.lookup n = some x) && glB c.sc x && dbgB x | _ => false
  | .never => fun _ => true
  | .tryx b hs => fun s => match s with | .Try eb (hh :: hr) [] [] _ => mSs c b eb && mHs c hs (hh :: hr) | _ => false
def mSs (c : Ck) : ISs → List Stmt → Bool
  | .nil => fun l => match l with | [] => true | _ => false
  | .cons s ss => fun l => match l with | x :: xs => mS c s x && mSs c ss xs | _ => false
end

def PostS (g : Gd) (W : WX) (D : Ends) (H : Hp) (m : List Addr) : RS → Prop
  | .ok (.nx τ') h' => ∀ σ' H' m', Ext H m H' m' → At g σ' H' m' τ' h' → D.nx σ' H'
  | .ok (.rt d) h' => ∀ v H' m', Ext H m H' m' → Rel g H' m' h' → DV g.K H' m' v d → D.rt v H'
  | .ok (.bk τ') h' => ∀ σ' H' m', Ext H m H' m' → At g σ' H' m' τ' h' → D.bk σ' H'
  | .ok (.ct τ') h' => ∀ σ' H' m', Ext H m H' m' → At g σ' H' m' τ' h' → D.ct σ' H'
  | .ex x τ' h' => ∀ c d σ' H' m', Ext H m H' m' → At g σ' H' m' τ' h' → EV g H' m' x c d → W c d σ' H'
  | .bad => False
def LS (g : Gd) (W : WX) (f : Fs) : TS := fun D σ H => ∃ m τ h, At g σ H m τ h ∧ PostS g W D H m (f τ h)
section
variable {g : Gd} {W : WX} {σ : L2.St} {H H1 : Hp} {m m1 : List Addr} {τ : Sd} {h h1 : Hd} {D : Ends}
theorem PostS.ext {r : RS} (p : PostS g W D H m r) (x : Ext H m H1 m1) : PostS g W D H1 m1 r := by
  cases r with
  | ok f h' => cases f with
    | nx τ' => exact fun σ' H' m' x' => p σ' H' m' (x.trans x')
    | rt d => exact fun v H' m' x' => p v H' m' (x.trans x')
    | bk τ' => exact fun σ' H' m' x' => p σ' H' m' (x.trans x')
    | ct τ' => exact fun σ' H' m' x' => p σ' H' m' (x.trans x')
  | ex e τ' h' => exact fun c d σ' H' m' x' => p c d σ' H' m' (x.trans x')
  | bad => exact p
/-- an expression, then what follows -/
theorem LE.st {f : Fe} {k : DL.D → Fs} (a : At g σ H m τ h) (p : PostS g W D H m ((f τ h).st τ fun d h1 => k d τ h1)) :
    LE g W f σ H fun v H1 => ∃ m1 h1 d, Ext H m H1 m1 ∧ At g σ H1 m1 τ h1 ∧ DV g.K H1 m1 v d ∧ PostS g W D H1 m1 (k d τ h1) := by
  refine ⟨m, τ, h, a, ?_⟩
  cases q : f τ h with
  | ok d h1 => rw [q] at p; exact fun v H' m' x r dv => ⟨m', h1, d, x, a.ext x r, dv, PostS.ext p x⟩
  | ex e h1 => rw [q] at p; exact fun c d H' m' x r ev => p c d σ H' m' x (a.ext x r) ev
  | bad => rw [q] at p; exact p
theorem LT.st {f : Ft} {k : Bool → Fs} (a : At g σ H m τ h) (p : PostS g W D H m ((f τ h).st τ fun d h1 => k d τ h1)) :
    LT g W f σ H fun v H1 => ∃ m1 h1, Ext H m H1 m1 ∧ At g σ H1 m1 τ h1 ∧ PostS g W D H1 m1 (k v τ h1) := by
  refine ⟨m, τ, h, a, ?_⟩
  cases q : f τ h with
  | ok d h1 => rw [q] at p; exact fun v H' m' x r dv => by cases (show v = d from dv); exact ⟨m', h1, x, a.ext x r, PostS.ext p x⟩
  | ex e h1 => rw [q] at p; exact fun c d H' m' x r ev => p c d σ H' m' x (a.ext x r) ev
  | bad => rw [q] at p; exact p
theorem LE.mono' {f : Fe} {Q Q' : VK} (p : LE g W f σ H Q) (hq : ∀ v H', Q v H' → Q' v H') : LE g W f σ H Q' := p.mono hq
end
end DL

set_option Elab.async false
set_option linter.all false
set_option maxRecDepth 100000
namespace DL
open PySem PySem.Spec PyProof.Rows L2
section
variable {g : Gd} {H H' : Hp} {m m' : List Addr} {h : Hd} {x : Exn} {cls : Value} {d : Option Addr}
theorem Rel.noxd (r : Rel g H m h) {b : Addr} {fs : List (Str × V)} (e : H b = some (.xd fs)) : b ∉ m := fun z => by
  obtain ⟨n, o, _, _, ov⟩ := r.mem z
  cases o with
  | lst ds => obtain ⟨_, q, _⟩ := ov; rw [e] at q; cases q
  | dct kvs => obtain ⟨_, q, _⟩ := ov; rw [e] at q; cases q
  | ins c fs => obtain ⟨_, _, _, _, q, _⟩ := ov; rw [e] at q; cases q
theorem EV.ext (r : Rel g H m h) (ev : EV g H m x cls d) (e : Ext H m H' m') : EV g H' m' x cls d := by
  obtain ⟨C, h1, h2, h3⟩ := ev
  refine ⟨C, h1, h2, ?_⟩
  cases d with
  | none => exact h3
  | some b =>
    obtain ⟨fs, q1, q2⟩ := h3
    exact ⟨fs, e.keep b _ (r.noxd q1) q1 (fun _ z => nomatch z), q2.stay (r.stay e)⟩
theorem FV.look {K : PySem.W.Frag} {f : Str} {dv : D} : ∀ {fs : List (Str × V)} {gs : List (Str × D)}, FV K H m fs gs → gs.lookup f = some dv → ∃ v, fs.lookup f = some v ∧ DV K H m v dv
  | [], [], _, e => by cases e
  | [], _ :: _, q, _ => by cases q.1
  | _ :: _, [], q, _ => by cases q.1
  | (a, v) :: fs, (b, u) :: gs, q, e => by
    obtain ⟨q1, q2⟩ := q
    injection q1 with q3 q4
    cases (show a = b from q3)
    cases q2 with
    | cons r t =>
      rw [List.lookup_cons] at e ⊢
      by_cases z : (f == a) = true
      · rw [z] at e ⊢
        cases e
        exact ⟨v, rfl, r⟩
      · rw [Bool.not_eq_true] at z
        rw [z] at e ⊢
        exact FV.look ⟨q4, t⟩ e
end
/-- the state in a suite -/
structure AtX (g : Gd) (slot : Option Nat) (a : Addr) (cls : Value) (d : Option Addr) (σ : L2.St) (H : Hp) (m : List Addr) (τ : Sd) (h : Hd) (x : Exn) : Prop where
  at_ : At g σ H m τ h
  ev : EV g H m x cls d
  sl : ∀ i, slot = some i → i < σ.length → σ[i]? = some (some (.ref a))
theorem AtX.ext {g : Gd} {slot : Option Nat} {a : Addr} {cls : Value} {d : Option Addr} {σ : L2.St} {H H' : Hp} {m m' : List Addr} {τ : Sd} {h : Hd} {x : Exn} (A : AtX g slot a cls d σ H m τ h x) (e : Ext H m H' m') (r : Rel g H' m' h) : AtX g slot a cls d σ H' m' τ h x :=
  ⟨A.at_.ext e r, A.ev.ext A.at_.rel e, A.sl⟩
def TX (g : Gd) (slot : Option Nat) (a : Addr) (cls : Value) (d : Option Addr) (f : Exn → Option D) : TE := fun σ H Q => ∃ m τ h x, AtX g slot a cls d σ H m τ h x ∧ match f x with
  | some dv => ∀ v H' m', Ext H m H' m' → Rel g H' m' h → DV g.K H' m' v dv → Q v H'
  | none => False
def TXs (g : Gd) (slot : Option Nat) (a : Addr) (cls : Value) (d : Option Addr) (f : Exn → Option (List D)) : TA := fun σ H Q => ∃ m τ h x, AtX g slot a cls d σ H m τ h x ∧ match f x with
  | some ds => ∀ vs H' m', Ext H m H' m' → Rel g H' m' h → DVs g.K H' m' vs ds → Q vs H'
  | none => False
theorem NameV.uniq {mg : Str → Option Value} {y : Str} {u u' : Value} {v v' : V} (n : NameV mg y u v) (n' : NameV mg y u' v') : u = u' := by
  rcases n.at_ with e | ⟨e1, e2, _⟩ <;> rcases n'.at_ with e' | ⟨e1', e2', _⟩
  · rw [e] at e'; exact Option.some.inj e'
  · rw [e] at e1'; cases e1'
  · rw [e1] at e'; cases e'
  · rw [e2] at e2'; exact Option.some.inj e2'
theorem ansB_of {l : List ((Nat × Str) × Bool)} {y : Str} {ans : List (Nat × Bool)} (h : ansB l y ans = true) {n : Nat} {b : Bool} (e : ans.lookup n = some b) : l.lookup (n, y) = some b := by
  have hm : (n, b) ∈ ans := by
    induction ans with
    | nil => cases e
    | cons p r ih =>
      obtain ⟨p1, p2⟩ := p
      rw [List.lookup_cons] at e
      cases z : (n == p1) with
      | true =>
        rw [z] at e
        cases e
        rw [beq_iff_eq.mp z]
        exact List.mem_cons_self
      | false =>
        rw [z] at e
        refine List.mem_cons_of_mem _ (ih ?_ e)
        exact List.all_eq_true.mpr fun q hq => List.all_eq_true.mp h q (List.mem_cons_of_mem _ hq)
  unfold ansB at h
  exact of_decide_eq_true (List.all_eq_true.mp h _ hm)
section
variable {X : Cx} {c : Ck} {g : Gd} {C : Tab} {W : WX} {k : Nat} {a : Addr} {oe : Obj} {cls : Value} {d : Option Addr} {pn : List (Addr × Obj)} {slot : Option Nat}
theorem px_con {f : Exn → Option D} {e : Expr} {v : V} {dv : D} (he : PE (X.suite a ((a, oe) :: pn)) e (tC v)) (hf : ∀ x, f x = some dv) (hd : ∀ H m, DV g.K H m v dv) : PE (X.suite a ((a, oe) :: pn)) e (TX g slot a cls d f) :=
  PE.weak he fun σ H Q ⟨m, τ, h, x, A, p⟩ => by
    rw [hf] at p
    exact p _ H m .refl A.at_.rel (hd _ _)
theorem px_var (ok : XOk X c g C W k) {i : Nat} {e : Expr} (hm : mVar c i e = true) : PE (X.suite a ((a, oe) :: pn)) e (tVar i) ∧ i < X.N.length ∧ ∃ x p, e = .Name x p := by
  unfold mVar at hm
  split at hm
  · rename_i z pz
    obtain ⟨hm, h3⟩ := and3 hm
    obtain ⟨h1, h2⟩ := and3 hm
    obtain ⟨d1, d2, d3⟩ := dbg_of h3
    have hN : X.N[i]? = some z := by rw [ok.N]; exact of_decide_eq_true h1
    exact ⟨pe_var (X := X.suite a ((a, oe) :: pn)) hN (vis_of ok.sc h2) d1 d2, (List.getElem?_eq_some_iff.mp hN).1, _, _, rfl⟩
  · cases hm
/-- nothing is asked: the state is none that comes -/
theorem pe_no {X : Cx} {e : Expr} {t : TE} (h : ∀ σ H Q, t σ H Q → False) : PE X e t := ⟨fun _ _ _ _ _ _ q => (h _ _ _ q).elim⟩
theorem pe_namev {X : Cx} {y : Str} {u : Value} {v : V} {p : Pos} (hg : Gl X y) (n : NameV X.mg y u v) : PE X (.Name y p) (tC v) := by
  rcases n.at_ with e | ⟨e1, e2, e3⟩
  · exact pe_glob hg e n.rel n.dbg
  · exact pe_bltn hg e1 e2 n.rel e3 n.dbg
theorem PE.len {X : Cx} {e : Expr} {t t' : TE} (he : PE X e t) (w : ∀ σ H Q, σ.length = X.N.length → t' σ H Q → t σ H Q) : PE X e t' := ⟨fun pins s σ H Q I h => he.run pins s σ H Q I (w _ _ _ I.len h)⟩
theorem sX (ok : XOk X c g C W k) (hz : Zc cls d oe) (hf : ∃ vs, oe.data = .fields vs) : ∀ (sx : SX) (e : Expr), mX c slot sx e = true → PE (X.suite a ((a, oe) :: pn)) e (TX g slot a cls d fun x => evX x sx)
  | .str z, e, hm => by
    unfold mX at hm
    split at hm
    · cases seq_of hm
      exact px_con pe_str (fun _ => rfl) fun _ _ => .str _
    · cases hm
  | .int i, e, hm => by
    unfold mX at hm
    split at hm
    · cases of_decide_eq_true hm
      exact px_con pe_int (fun _ => rfl) fun _ _ => .int _
    · cases hm
  | .bl b, e, hm => by
    unfold mX at hm
    split at hm
    · cases (beq_iff_eq.mp hm)
      exact px_con pe_bl (fun _ => rfl) fun _ _ => .bl _
    · cases hm
  | .non, e, hm => by
    unfold mX at hm
    split at hm
    · exact px_con pe_non (fun _ => rfl) fun _ _ => .non
    · cases hm
  | .fld i f cs, e, hm => by
    unfold mX at hm
    split at hm
    · obtain ⟨hm, h4⟩ := and3 hm
      obtain ⟨hm, h3⟩ := and3 hm
      obtain ⟨h1, h2⟩ := and3 hm
      cases seq_of h2
      cases of_decide_eq_true h1
      obtain ⟨pv, hi, _⟩ := px_var (a := a) (oe := oe) (pn := pn) ok h3
      by_cases hC : ∃ D, cls = .ref D ∧ XfC X.K D ∧ PySem.W.findIn X.K (.ref D) f = some none
      · obtain ⟨D, rfl, T, hno⟩ := hC
        refine PE.len (pe_xf T hno hz hf pv rfl) fun σ H Q hl ⟨m, τ, h, x, A, p⟩ => ?_
        have hs := A.sl i rfl (by rw [hl]; exact hi)
        refine ⟨_, hs, rfl, rfl, ?_⟩
        obtain ⟨D', e1, e2, e3⟩ := A.ev
        simp only [evX] at p
        split at p
        · rename_i dv hdv
          split at hdv
          · cases d with
            | none =>
              have e4 : x.fs = [] := e3
              rw [e4] at hdv; cases hdv
            | some b =>
              obtain ⟨fs, q1, q2⟩ := e3
              obtain ⟨v, l1, l2⟩ := q2.look hdv
              exact ⟨b, fs, v, rfl, q1, l1, p v H m .refl A.at_.rel l2⟩
          · cases hdv
        · exact p.elim
      · refine pe_no fun σ H Q ⟨m, τ, h, x, A, p⟩ => ?_
        obtain ⟨D', e1, e2, e3⟩ := A.ev
        simp only [evX] at p
        split at p
        · rename_i dv hdv
          split at hdv
          · rename_i hc
            have hc2 : c.tb.efs.contains (x.cls, f) = true := List.all_eq_true.mp h4 _ (by simpa using hc)
            obtain ⟨D2, c1, c2, c3⟩ := ok.gf.efs _ _ hc2
            rw [e1] at c1
            cases c1
            exact hC ⟨_, e2, c2, c3⟩
          · cases hdv
        · exact p
    · cases hm
  | .isi i y ans, e, hm => by
    unfold mX at hm
    split at hm
    · obtain ⟨hm, h8⟩ := and3 hm
      obtain ⟨hm, h7⟩ := and3 hm
      obtain ⟨hm, h6⟩ := and3 hm
      obtain ⟨hm, h5⟩ := and3 hm
      obtain ⟨hm, h4⟩ := and3 hm
      obtain ⟨hm, h3⟩ := and3 hm
      obtain ⟨h1, h2⟩ := and3 hm
      cases of_decide_eq_true h1
      cases seq_of h2
      cases seq_of h6
      obtain ⟨pv, hi, xn, px, ex⟩ := px_var (a := a) (oe := oe) (pn := pn) ok h5
      cases ex
      by_cases hC : ∃ D u v, cls = .ref D ∧ ExcC X.K D ∧ NameV X.mg y u v
      · obtain ⟨D, u, v, rfl, T, nv⟩ := hC
        have py : ∀ p, PE (X.suite a ((a, oe) :: pn)) (.Name y p) (tC v) := fun p => pe_namev (X := X.suite a ((a, oe) :: pn)) (gl_of ok.sc h7) nv
        refine PE.len (pe_callB (call_isD T hz hf) (gl_of (X := X.suite a ((a, oe) :: pn)) ok.sc h3) (ok.free _ h4) (by decide +kernel) (pa_cons pv (pa_cons (py _) pa_nil)) (by decide +kernel) (by decide +kernel)) fun σ H Q hl ⟨m, τ, h, x, A, p⟩ => ?_
        have hs := A.sl i rfl (by rw [hl]; exact hi)
        refine ⟨_, hs, ?_⟩
        obtain ⟨D', e1, e2, e3⟩ := A.ev
        cases e2
        simp only [evX] at p
        cases hb : ans.lookup x.cls with
        | none => rw [hb] at p; exact p.elim
        | some b =>
          rw [hb] at p
          obtain ⟨D2, u2, v2, c1, c2, c3, c4⟩ := ok.gf.isx _ _ _ (ansB_of h8 hb)
          rw [e1] at c1
          cases c1
          cases nv.uniq c3
          refine ⟨fun dx hdx => ?_, v, u, b, rfl, nv.one, c4, p _ H m .refl A.at_.rel (.bl b)⟩
          subst hdx
          obtain ⟨fs, q1, _⟩ := e3
          exact ⟨fs, q1⟩
      · refine pe_no fun σ H Q ⟨m, τ, h, x, A, p⟩ => ?_
        obtain ⟨D', e1, e2, e3⟩ := A.ev
        simp only [evX] at p
        cases hb : ans.lookup x.cls with
        | none => rw [hb] at p; exact p
        | some b =>
          obtain ⟨D2, u2, v2, c1, c2, c3, c4⟩ := ok.gf.isx _ _ _ (ansB_of h8 hb)
          rw [e1] at c1
          cases c1
          exact hC ⟨_, _, _, e2, c2, c3⟩
    · cases hm
  | .and2 b1 b2, e, hm => by
    unfold mX at hm
    split at hm
    · obtain ⟨h1, h2⟩ := and3 hm
      refine PE.weak (pe_and (sX ok hz hf b1 _ h1) (pe_one (sX ok hz hf b2 _ h2))) fun σ H Q ⟨m, τ, h, x, A, p⟩ => ?_
      refine ⟨m, τ, h, x, A, ?_⟩
      simp only [evX] at p
      cases q : evX x b1 with
      | none => rw [q] at p; exact p.elim
      | some d1 =>
        rw [q] at p
        dsimp only
        rw [q]
        intro v H' m' x' r qv
        cases qv with
        | bl t =>
          refine ⟨t, rfl, ?_⟩
          cases t with
          | true =>
            refine ⟨m', τ, h, x, A.ext x' r, ?_⟩
            dsimp only at p ⊢
            cases q2 : evX x b2 with
            | none => rw [q2] at p; exact p
            | some d2 => rw [q2] at p; exact fun v2 H2 m2 x2 => p v2 H2 m2 (x'.trans x2)
          | false => exact p _ H' m' x' r (.bl _)
        | _ => exact p.elim
    · cases hm
theorem sXs (ok : XOk X c g C W k) (hz : Zc cls d oe) (hf : ∃ vs, oe.data = .fields vs) : ∀ (l : List SX) (es : List Expr), mXs c slot l es = true → PA (X.suite a ((a, oe) :: pn)) es (TXs g slot a cls d fun x => evXs x l)
  | [], [], _ => ⟨fun pos pins s σ H Q I ⟨m, τ, h, x, A, p⟩ => pa_nil.run pos pins s σ H Q I (show Q [] H from p _ H m .refl A.at_.rel .nil)⟩
  | [], _ :: _, h => by cases h
  | _ :: _, [], h => by cases h
  | e :: l, y :: ys, hm => by
    unfold mXs at hm
    obtain ⟨hm, h3⟩ := and3 hm
    obtain ⟨h1, h2⟩ := and3 hm
    refine PA.weak (pa_cons (sX ok hz hf e y h1) (sXs ok hz hf l ys h3) (star_of h2)) fun σ H Q ⟨m, τ, h, x, A, p⟩ => ?_
    refine ⟨m, τ, h, x, A, ?_⟩
    simp only [evXs] at p
    cases q : evX x e with
    | none => rw [q] at p; exact p.elim
    | some d1 =>
      rw [q] at p
      dsimp only
      rw [q]
      intro v H' m' x' r qv
      refine ⟨m', τ, h, x, A.ext x' r, ?_⟩
      cases q2 : evXs x l with
      | none => rw [q2] at p; exact p.elim
      | some ds =>
        rw [q2] at p
        dsimp only
        rw [q2]
        exact fun vs H2 m2 x2 r2 qs => p (v :: vs) H2 m2 (x'.trans x2) r2 (.cons (qv.stay (r.stay x2)) qs)
def TU (g : Gd) (slot : Option Nat) (su : SU) : Addr → Value → Option Addr → TS := fun a cls d D σ H => ∃ m τ h x, AtX g slot a cls d σ H m τ h x ∧ match evU x su with
  | some (some dv) => ∀ v H' m', Ext H m H' m' → Rel g H' m' h → DV g.K H' m' v dv → D.rt v H'
  | some none => D.nx σ H
  | none => False
theorem sU (ok : XOk X c g C W k) : ∀ (su : SU) (sts : List Stmt), mU c slot su sts = true → SuiteOk X sts (TU g slot su)
  | .ret l, sts, hm => fun a oe cls d pn hz hf => by
    dsimp only [mU] at hm
    split at hm
    · refine PSs.weak (pss_cons (ps_ret (pe_tup (sXs ok hz hf l _ hm))) pss_nil) fun D σ H ⟨m, τ, h, x, A, p⟩ => ?_
      refine ⟨m, τ, h, x, A, ?_⟩
      simp only [evU] at p
      cases q : evXs x l with
      | none => rw [q] at p; exact p.elim
      | some ds =>
        rw [q] at p
        dsimp only
        rw [q]
        intro vs H' m' x' r qs
        by_cases z : ds.length ≤ sizeLine
        · simp only [z, if_true] at p
          refine ⟨by rw [qs.length]; exact z, fun pp hp => ?_⟩
          have x2 : Ext H' m' (upd H' pp (.tup vs)) m' := .tupNew hp
          exact p _ _ m' (x'.trans x2) (r.tupNew hp) (.tup (.inl (.inl upd_same)) (qs.stay (r.stay x2)))
        · simp only [z, if_false] at p
    · cases hm
  | .pas, sts, hm => fun a oe cls d pn hz hf => by
    dsimp only [mU] at hm
    split at hm
    · exact PSs.weak (pss_cons ps_pass pss_nil) fun D σ H ⟨m, τ, h, x, A, p⟩ => p
    · cases hm
theorem ne_of_mU {su : SU} {sts : List Stmt} (h : mU c slot su sts = true) : ∃ b r, sts = b :: r := by
  cases su with
  | ret l => dsimp only [mU] at h; split at h <;> first | exact ⟨_, _, rfl⟩ | cases h
  | pas => dsimp only [mU] at h; split at h <;> first | exact ⟨_, _, rfl⟩ | cases h
theorem name_of (ok : XOk X c g C W k) {y : Str} {ans : List (Nat × Bool)} (h : ansB c.tb.exm y ans = true) (n : (!ans.isEmpty) = true) : ∃ u v, NameV X.mg y u v := by
  match ans, h, n with
  | [], _, n => cases n
  | p :: r, h, _ =>
    have h1 : c.tb.exm.lookup (p.1, y) = some p.2 := by
      unfold ansB at h
      exact of_decide_eq_true (List.all_eq_true.mp h _ List.mem_cons_self)
    obtain ⟨_, u, v, _, nv, _⟩ := ok.gf.exm _ _ _ h1
    exact ⟨u, v, nv⟩
/-- one clause's part of the wish -/
theorem cl_one (ok : XOk X c g C W k) {dd : HD} {u : Value} {v : V} {Wout : WX} {D : Ends} {x : Exn} {τ : Sd} {h : Hd} {σ : L2.St} {H : Hp} {m : List Addr} {ds : List HD} {l : List Clause}
    (nv : NameV X.mg dd.y u v) (ha : ansB c.tb.exm dd.y dd.ans = true) (A : At g σ H m τ h) (ev : EV g H m x cls d) (p : PostS g Wout D H m (evH x τ h (dd :: ds)))
    (ih : PostS g Wout D H m (evH x τ h ds) → wCl X.K Wout D l cls d σ H) : wCl X.K Wout D (⟨u, dd.slot, TU g dd.slot dd.su⟩ :: l) cls d σ H := by
  unfold evH at p
  cases hb : dd.ans.lookup x.cls with
  | none => rw [hb] at p; exact p.elim
  | some b =>
    rw [hb] at p
    obtain ⟨D2, u2, v2, c1, c2, c3⟩ := ok.gf.exm _ _ _ (ansB_of ha hb)
    cases nv.uniq c2
    obtain ⟨D', e1, e2, e3⟩ := id ev
    rw [e1] at c1
    cases c1
    subst e2
    refine ⟨b, c3, fun hb1 => ?_, fun hb0 => ?_⟩
    · subst hb1
      dsimp only at p
      unfold Clause.go
      cases hs : dd.slot with
      | none =>
        rw [hs] at p
        intro a na
        refine ⟨m, τ, h, x, ⟨A, ev, fun i z => nomatch z⟩, ?_⟩
        cases q : evU x dd.su with
        | none => rw [q] at p; exact p.elim
        | some o =>
          rw [q] at p
          cases o with
          | none => exact p σ H m .refl A
          | some dv => exact fun v H' m' x' r qv => p v H' m' x' r qv
      | some i =>
        rw [hs] at p
        intro a na
        have sv : SV g.K H m (σ.set i (some (.ref a))) (τ.set i none) := by
          refine ⟨by simp [A.sv.1], fun j dj e => ?_⟩
          by_cases hj : i = j
          · subst hj
            by_cases hl : i < τ.length
            · rw [List.getElem?_set_self hl] at e; cases e
            · rw [List.getElem?_eq_none (by simpa using hl)] at e; cases e
          · rw [List.getElem?_set_ne hj] at e ⊢
            exact A.sv.2 j dj e
        refine ⟨m, τ.set i none, h, x, ⟨⟨A.rel, sv⟩, ev, fun j z hl => by cases z; exact List.getElem?_set_self (by simpa using hl)⟩, ?_⟩
        cases q : evU x dd.su with
        | none => rw [q] at p; exact p.elim
        | some o =>
          rw [q] at p
          cases o with
          | none =>
            refine p ((σ.set i (some (.ref a))).set i none) H m .refl ⟨A.rel, ?_⟩
            rw [List.set_set]
            refine ⟨by simp [wipeO, A.sv.1], fun j dj e => ?_⟩
            have e : (τ.set i none)[j]? = some (some dj) := e
            by_cases hj : i = j
            · subst hj
              by_cases hl : i < τ.length
              · rw [List.getElem?_set_self hl] at e; cases e
              · rw [List.getElem?_eq_none (by simpa using hl)] at e; cases e
            · rw [List.getElem?_set_ne hj] at e ⊢
              exact A.sv.2 j dj e
          | some dv => exact fun v H' m' x' r qv => p v H' m' x' r qv
    · subst hb0
      exact ih p
theorem sHs (ok : XOk X c g C W k) : ∀ (hs : List HD) (es : List ExceptHandler), mHs c hs es = true → ∃ l : List Clause, ClOk X es l ∧ ∀ (Wout : WX) (D : Ends) (x : Exn) (τ : Sd) (h : Hd) (cls : Value) (d : Option Addr) (σ : L2.St) (H : Hp) (m : List Addr),
    At g σ H m τ h → EV g H m x cls d → PostS g Wout D H m (evH x τ h hs) → wCl X.K Wout D l cls d σ H
  | [], [], _ => ⟨[], .nil, fun Wout D x τ h cls d σ H m A ev p => p cls d σ H m .refl A ev⟩
  | [], _ :: _, h => by cases h
  | _ :: _, [], h => by cases h
  | dd :: ds, e :: es, hm => by
    unfold mHs at hm
    obtain ⟨h1, h2⟩ := and3 hm
    obtain ⟨l, hl, w⟩ := sHs ok ds es h2
    unfold mH at h1
    split at h1
    · obtain ⟨h1, g7⟩ := and3 h1
      obtain ⟨h1, g6⟩ := and3 h1
      obtain ⟨h1, g5⟩ := and3 h1
      obtain ⟨h1, g4⟩ := and3 h1
      obtain ⟨h1, g3⟩ := and3 h1
      obtain ⟨g1, g2⟩ := and3 h1
      cases seq_of g2
      obtain ⟨u, v, nv⟩ := name_of ok g5 g6
      obtain ⟨b, r, rfl⟩ := ne_of_mU g7
      have hs : dd.slot = none := of_decide_eq_true g1
      refine ⟨⟨u, dd.slot, TU g dd.slot dd.su⟩ :: l, ?_, fun Wout D x τ h cls d σ H m A ev p => cl_one ok nv g5 A ev p (w Wout D x τ h cls d σ H m A ev)⟩
      rw [hs] at g7 ⊢
      exact .bare ⟨gl_of ok.sc g3, nv.dbg, nv.at_⟩ (sU ok _ _ g7) hl
    · obtain ⟨h1, g7⟩ := and3 h1
      obtain ⟨h1, g6⟩ := and3 h1
      obtain ⟨h1, g5⟩ := and3 h1
      obtain ⟨h1, g4⟩ := and3 h1
      obtain ⟨h1, g3⟩ := and3 h1
      obtain ⟨g1, g2⟩ := and3 h1
      cases seq_of g2
      obtain ⟨u, v, nv⟩ := name_of ok g5 g6
      obtain ⟨b, r, rfl⟩ := ne_of_mU g7
      refine ⟨⟨u, dd.slot, TU g dd.slot dd.su⟩ :: l, ?_, fun Wout D x τ h cls d σ H m A ev p => cl_one ok nv g5 A ev p (w Wout D x τ h cls d σ H m A ev)⟩
      cases hs : dd.slot with
      | none => rw [hs] at g1; cases g1
      | some i =>
        rw [hs] at g1 g7
        obtain ⟨g8, g9⟩ := and3 g1
        exact .named ⟨gl_of ok.sc g3, nv.dbg, nv.at_⟩ (by rw [ok.N]; exact of_decide_eq_true g8) (by show X.env.scope.names.lookup _ = _; rw [ok.sc]; exact of_decide_eq_true g9) (sU ok _ _ g7) hl
    · cases h1
end
end DL

set_option Elab.async false
set_option linter.all false
set_option maxRecDepth 100000
namespace DL
open PySem PySem.Spec PyProof.Rows L2
theorem swaps_no {e : Expr} {t : Option Expr} {l : Nat} {env : Env} (n : notComp e = true) : swapsWith e t l env = pure false := by
  cases e <;> first | rfl | cases n
theorem sole_no {e t : Expr} {l : Nat} {env : Env} (n : notComp e = true) : swapsWithSole [t] e l env = pure false := swaps_no n
theorem stores_no {ts : List Expr} {kk : Nat} {p : Pos} {e : Expr} {env : Env} (n : notTup e = true) : swappedStores [.Tuple ts kk p] e env = pure none := by
  cases e <;> first | rfl | cases n
theorem stores_sub {o i : Expr} {p : Pos} {e : Expr} {env : Env} : swappedStores [.Subscript o i p] e env = pure none := rfl
section
variable {X : Cx} {c : Ck} {g : Gd} {C : Tab} {W : WX} {k : Nat}
theorem swaps_set (ok : XOk X c g C W k) {x : Str} {px : Pos} {e : Expr} {l : Nat} (n : swB c x e = true) : swapsWith e (some (.Name x px)) l X.env = pure false := by
  unfold swB at n
  rcases Bool.or_eq_true_iff.mp n with n | n
  · exact swaps_no n
  · obtain ⟨n1, n2⟩ := and3 n
    have nl : (X.env.kindOf x == some NameKind.local) = false := by
      have e1 : X.env.kindOf x = c.sc.names.lookup x := congrArg (fun ns => ns.lookup x) ok.sc
      rw [e1]
      split at n2
      · cases n2
      · rename_i hne
        cases q : c.sc.names.lookup x with
        | none => rfl
        | some kk =>
          cases kk <;> first | rfl | exact absurd q hne
    cases e with
    | ListComp elt gs sc pos =>
      unfold swapsWith
      dsimp only
      simp only [nl, Bool.and_false, Bool.false_and]
      try rfl
    | _ => cases n1
theorem o_ip (o : O2) : OpR X (inplaceOp o.op) (rD g (semIp o)) := by
  cases o with
  | add =>
    refine op_or ((iop_add (X := X)).or iop_add_str) fun x y H Q ⟨m, h, dx, dy, r, qx, qy, p⟩ => ?_
    cases qx with
    | int i => cases qy with
      | int j => exact .inl ⟨_, _, rfl, rfl, p.here r (.int _)⟩
      | _ => exact p.elim
    | str a => cases qy with
      | str b =>
        simp only [semIp] at p
        split at p
        · exact .inr ⟨_, _, rfl, rfl, by assumption, p.here r (.str _)⟩
        · exact p.elim
      | _ => exact p.elim
    | _ => exact p.elim
  | sub =>
    refine op_or (iop_sub (X := X)) fun x y H Q ⟨m, h, dx, dy, r, qx, qy, p⟩ => ?_
    cases qx with
    | int i => cases qy with
      | int j => exact ⟨_, _, rfl, rfl, p.here r (.int _)⟩
      | _ => exact p.elim
    | _ => exact p.elim
  | _ => intro pins s σ H x y v u Q I rx ry ⟨m, h, dx, dy, r, qx, qy, p⟩; exact p.elim

/-- o[i] = d, by data -/
theorem whileN_cases {c : Ft} {b : Fs} {n : Nat} {τ : Sd} {h : Hd} {r : RS} (e : whileN c b n τ h = some r) : ∃ n', n = n' + 1 ∧ (r = (c τ h).st τ fun k h1 => if k = true then (b τ h1).turn (fun τ2 h2 => (whileN c b n' τ2 h2).getD .bad) else .ok (.nx τ) h1) ∧
    ∀ τ2 h1 h2, c τ h = .ok true h1 → (b τ h1 = .ok (.nx τ2) h2 ∨ b τ h1 = .ok (.ct τ2) h2) → whileN c b n' τ2 h2 = some r := by
  cases n with
  | zero => cases e
  | succ n =>
    refine ⟨n, rfl, ?_, ?_⟩
    · unfold whileN at e
      cases q : c τ h with
      | bad => rw [q] at e; cases e; rfl
      | ex x h1 => rw [q] at e; cases e; rfl
      | ok a h1 =>
        rw [q] at e
        cases a with
        | false => cases e; rfl
        | true =>
          dsimp only at e
          simp only [Res.st_ok, if_true]
          cases q2 : b τ h1 with
          | bad => rw [q2] at e; cases e; rfl
          | ex x τ2 h2 => rw [q2] at e; cases e; rfl
          | ok f h2 =>
            rw [q2] at e
            cases f with
            | nx τ2 => have e' : whileN c b n τ2 h2 = some r := e; show r = (whileN c b n τ2 h2).getD .bad; rw [e']; rfl
            | ct τ2 => have e' : whileN c b n τ2 h2 = some r := e; show r = (whileN c b n τ2 h2).getD .bad; rw [e']; rfl
            | bk τ2 => cases e; rfl
            | rt d => cases e; rfl
    · intro τ2 h1 h2 e1 e2
      unfold whileN at e
      rw [e1] at e
      dsimp only at e
      rcases e2 with e2 | e2 <;> (rw [e2] at e; exact e)
/-- a def's own frame -/
def FrX (X : Cx) : Prop := X.stack = X.env :: X.outer ∧ X.env.frame = some X.env.locals
mutual
theorem sS : ∀ (s : IS) (st : Stmt) {X : Cx} {c : Ck} {W : WX}, mS c s st = true → XOk X c g C W k → FrX X → PS X st (LS g W (evS C s))
  | .expr e, st, X, c, W, hm, ok, hf => by
    unfold mS at hm
    split at hm
    · obtain ⟨h1, h2⟩ := and3 hm
      refine PS.weak (ps_expr (sE e _ h2 ok).1 (swaps_no h1)) fun D σ H ⟨m, τ, h, a, p⟩ => ?_
      exact (LE.st (k := fun _ τ h1 => .ok (.nx τ) h1) a p).mono fun v H1 ⟨m1, h1, d, x, a1, r, p1⟩ => p1 σ H1 m1 .refl a1
    · cases hm
  | .ret e, st, X, c, W, hm, ok, hf => by
    unfold mS at hm
    split at hm
    · refine PS.weak (ps_ret (sE e _ hm ok).1) fun D σ H ⟨m, τ, h, a, p⟩ => ?_
      exact (LE.st (k := fun d _ h1 => .ok (.rt d) h1) a p).mono fun v H1 ⟨m1, h1, d, x, a1, r, p1⟩ => p1 v H1 m1 .refl a1.rel r
    · cases hm
  | .retN, st, X, c, W, hm, ok, hf => by
    unfold mS at hm
    split at hm
    · exact PS.weak ps_retN fun D σ H ⟨m, τ, h, a, p⟩ => p .non H m .refl a.rel .non
    · cases hm
  | .set i e, st, X, c, W, hm, ok, hf => by
    unfold mS at hm
    split at hm
    · obtain ⟨hm, h3⟩ := and3 hm
      obtain ⟨h1, h2⟩ := and3 hm
      obtain ⟨x, px, e1, h4, h5⟩ := mNm_of h1
      cases e1
      obtain ⟨l1, l2⟩ := loc_of ok h5
      refine PS.weak (ps_set (i := i) ok.nd (by rw [ok.N]; exact h4) l1 (sE e _ h2 ok).1 (swaps_set ok h3) l2) fun D σ H ⟨m, τ, h, a, p⟩ => ?_
      exact (LE.st (k := fun d τ h1 => .ok (.nx (τ.set i (some d))) h1) a p).mono fun v H1 ⟨m1, h1, d, x, a1, r, p1⟩ => p1 _ H1 m1 .refl ⟨a1.rel, a1.sv.set i r⟩
    · cases hm
  | .setc i t vs it co e, st, X, c, W, hm, ok, hf => by
    unfold mS at hm
    split at hm
    · rename_i x px elt tg iter ifs scope pos sp
      obtain ⟨hm, h5⟩ := and3 hm
      obtain ⟨hm, h4⟩ := and3 hm
      obtain ⟨hm, h3⟩ := and3 hm
      obtain ⟨h1, h2⟩ := and3 hm
      have hN : c.N[i]? = some x := of_decide_eq_true h1
      have hl : X.env.scope.names.lookup x = some .local := by rw [ok.sc]; exact of_decide_eq_true h2
      obtain ⟨hm, g5⟩ := and3 h5
      obtain ⟨hm, g4⟩ := and3 hm
      obtain ⟨hm, g3⟩ := and3 hm
      obtain ⟨g1, g2⟩ := and3 hm
      have hv : tgIn t vs = true := of_decide_eq_true g2
      unfold mComp at g3
      obtain ⟨g3, g8⟩ := and3 g3
      obtain ⟨g6, g7⟩ := and3 g3
      have b := blkOk_by g6
      have ev : (ownOf c.N vs).map (·.2) = vs := of_decide_eq_true g7
      have hi := sI it tg iter g1 ok
      have nset := mI_notSet g1
      have bX : BlkOk X.N X.env.scope scope (ownOf c.N vs) := by
        rw [ok.N]
        exact ⟨b.kind, b.uniq, b.ix, fun y hy e => by rw [ok.sc]; exact b.free y hy e, b.own⟩
      have blk := fun s H Ca cl fp => blk_ok ok b s H Ca cl fp
      have na : (scope.names.any fun (n, k) => n == x && (k == .local || k == .cell)) = false := by
        cases q : (scope.names.any fun (n, k) => n == x && (k == .local || k == .cell)) with
        | true => rw [q] at h4; cases h4
        | false => rfl
      refine PS.weak (ps_setLc (i := i) ok.calm ok.nd (by rw [ok.N]; exact hN) hl (sw_true ok.kind hl h3 na) hi bX (fun s H Ca cl fp => p_tg (blk s H Ca cl fp) g8) (fun s H Ca cl fp => sC co ifs g4 (blk s H Ca cl fp)) (fun s H Ca cl fp => (sE e elt g5 (blk s H Ca cl fp)).1) (fold_of nset)) fun D σ H ⟨m, τ, h, a, p⟩ => ?_
      rw [ev]
      have p' := (LE.st (k := fun d τ h1 => .ok (.nx (τ.set i (some d))) h1) a p).mono (Q' := fun x H1 => gName i x σ H1 D.nx) fun v H1 ⟨m1, h1, d, x, a1, r, p1⟩ => p1 _ H1 m1 .refl ⟨a1.rel, a1.sv.set i r⟩
      exact lc_ok hv p'
    · cases hm
  | .unp is e, st, X, c, W, hm, ok, hf => by
    unfold mS at hm
    split at hm
    · rename_i es kk tp ee sp
      obtain ⟨hm, h4⟩ := and3 hm
      obtain ⟨hm, h3⟩ := and3 hm
      obtain ⟨h1, h2⟩ := and3 hm
      have pg : PG X (.Tuple es kk tp) (gT g.K (.tup is)) := p_tg (t := .tup is) ok h1
      refine PS.weak (ps_asg (sE e _ h2 ok).1 pg (sole_no h4) (stores_no h3) rfl) fun D σ H ⟨m, τ, h, a, p⟩ => ?_
      refine (LE.st (k := fun d τ h1 => match setTg (.tup is) d τ with | some τ' => .ok (.nx τ') h1 | none => .bad) a p).mono fun v H1 ⟨m1, h1, d, x, a1, r, p1⟩ => ?_
      cases q : setTg (.tup is) d τ with
      | none => rw [q] at p1; exact p1.elim
      | some τ' =>
        rw [q] at p1
        exact gT_ok r a1.sv q _ fun σ' s' _ => p1 σ' H1 m1 .refl ⟨a1.rel, s'⟩
    · cases hm
  | .setix o i e, st, X, c, W, hm, ok, hf => by
    unfold mS at hm
    split at hm
    · rename_i eo ei tp ee sp
      obtain ⟨hm, h5⟩ := and3 hm
      obtain ⟨hm, h4⟩ := and3 hm
      obtain ⟨hm, h3⟩ := and3 hm
      obtain ⟨h1, h2⟩ := and3 hm
      have pg := pg_sub (pos := tp) (sE o _ h1 ok).1 (sE i _ h2 ok).1 (set_any (X := X) (g := g) (by have := ok.room.un; omega)) (by intro v; cases ei <;> first | rfl | cases h4)
      refine PS.weak (ps_asg (sE e _ h3 ok).1 pg (sole_no h5) stores_sub rfl) fun D σ H ⟨m, τ, h, a, p⟩ => ?_
      refine (LE.st (k := fun d τ h1 => ((evP C o).1 τ h1).st τ fun x h2 => ((evP C i).1 τ h2).st τ fun y h3 => match setD2 x y d h3 with | some h4 => .ok (.nx τ) h4 | none => .bad) a p).mono fun v H1 ⟨m1, h1, d, x1, a1, r1, p1⟩ => ?_
      refine (LE.st (k := fun x τ h2 => ((evP C i).1 τ h2).st τ fun y h3 => match setD2 x y d h3 with | some h4 => .ok (.nx τ) h4 | none => .bad) a1 p1).mono fun v2 H2 ⟨m2, h2, d2, x2, a2, r2, p2⟩ => ?_
      refine (LE.st (k := fun y τ h3 => match setD2 d2 y d h3 with | some h4 => .ok (.nx τ) h4 | none => .bad) a2 p2).mono fun v3 H3 ⟨m3, h3, d3, x3, a3, r3, p3⟩ => ?_
      refine ⟨m3, h3, d2, d3, d, a3.rel, r2.stay (a2.rel.stay x3), r3, (r1.stay (a1.rel.stay x2)).stay (a2.rel.stay x3), ?_⟩
      cases q : setD2 d2 d3 d h3 with
      | none => rw [q] at p3; exact p3.elim
      | some h4 =>
        rw [q] at p3
        exact fun H' x' r' => p3 σ H' m3 x' (a3.ext x' r')
    · cases hm
  | .aug i o e, st, X, c, W, hm, ok, hf => by
    unfold mS at hm
    split at hm
    · obtain ⟨hm, h3⟩ := and3 hm
      obtain ⟨h1, h2⟩ := and3 hm
      obtain ⟨x, px, e1, h4, h5⟩ := mNm_of h1
      cases e1
      cases of_decide_eq_true h2
      obtain ⟨l1, l2⟩ := loc_of ok h5
      refine PS.weak (ps_aug (i := i) (ti := rD g (semIp o)) ok.nd (by rw [ok.N]; exact h4) l1 (sE e _ h3 ok).1 (o_ip o) l2) fun D σ H ⟨m, τ, h, a, p⟩ => ?_
      simp only [evS] at p
      split at p
      · rename_i d0 e0
        obtain ⟨v0, q0, r0⟩ := a.sv.2 i d0 e0
        refine ⟨v0, q0, ?_⟩
        refine (LE.st (k := fun d τ h1 => match semIp o d0 d h1 with | some (z, h2) => .ok (.nx (τ.set i (some z))) h2 | none => .bad) a p).mono fun v H1 ⟨m1, h1, d, x1, a1, r1, p1⟩ => ?_
        refine ⟨m1, h1, d0, d, a1.rel, r0.stay (a.rel.stay x1), r1, ?_⟩
        cases q : semIp o d0 d h1 with
        | none => rw [q] at p1; exact p1.elim
        | some z =>
          obtain ⟨z, h2⟩ := z
          rw [q] at p1
          intro w H' m' x' r' qz
          exact p1 _ H' m' x' ⟨r', (a1.sv.stay (a1.rel.stay x')).set i qz⟩
      · exact p.elim
    · cases hm
  | .iff t a b, st, X, c, W, hm, ok, hf => by
    unfold mS at hm
    split at hm
    · obtain ⟨hm, h3⟩ := and3 hm
      obtain ⟨h1, h2⟩ := and3 hm
      refine PS.weak (ps_if (sE t _ h1 ok).2 (sSs a _ h2 ok hf) (sSs b _ h3 ok hf)) fun D σ H ⟨m, τ, h, a', p⟩ => ?_
      refine (LT.st (k := fun k τ h1 => if k = true then evSs C a τ h1 else evSs C b τ h1) a' p).mono fun v H1 ⟨m1, h1, x, a1, p1⟩ => ?_
      cases v with
      | true => exact ⟨m1, τ, h1, a1, p1⟩
      | false => exact ⟨m1, τ, h1, a1, p1⟩
    · cases hm
  | .whil t b, st, X, c, W, hm, ok, hf => by
    unfold mS at hm
    split at hm
    · obtain ⟨h1, h2⟩ := and3 hm
      refine PS.weak (ps_while ok.own (sE t _ h1 ok).2 (sSs b _ h2 ok hf)) fun D σ H ⟨m, τ, h, a, p⟩ => ?_
      rcases whileD_has (c := (evP C t).2) (b := evSs C b) (τ := τ) (h := h) with z | ⟨n, z⟩
      · have p' : PostS g W D H m (whileD (evP C t).2 (evSs C b) τ h) := p
        rw [z] at p'; exact p'.elim
      · have p' : PostS g W D H m (whileD (evP C t).2 (evSs C b) τ h) := p
        generalize whileD (evP C t).2 (evSs C b) τ h = r at z p'
        refine ⟨fun n σ H => ∃ m τ h, At g σ H m τ h ∧ PostS g W D H m r ∧ whileN (evP C t).2 (evSs C b) n τ h = some r, ⟨n, m, τ, h, a, p', z⟩, ?_⟩
        rintro n σ H ⟨m, τ, h, a, p', z⟩
        obtain ⟨n', rfl, er, nxt⟩ := whileN_cases z
        have p2 : PostS g W D H m (((evP C t).2 τ h).st τ fun k h1 => if k = true then (evSs C b τ h1).turn (fun τ2 h2 => (whileN (evP C t).2 (evSs C b) n' τ2 h2).getD .bad) else .ok (.nx τ) h1) := by rw [← er]; exact p'
        cases qc : (evP C t).2 τ h with
        | bad => rw [qc] at p2; exact p2.elim
        | ex x h1 =>
          refine ⟨m, τ, h, a, ?_⟩
          rw [qc] at p2 ⊢
          exact fun c d H' m' x r ev => p2 c d σ H' m' x (a.ext x r) ev
        | ok kb h1 =>
          rw [qc] at p2
          refine ⟨m, τ, h, a, ?_⟩
          rw [qc]
          intro v H' m' x' r' ev
          have ev' : v = kb := ev
          subst ev'
          have a1 := a.ext x' r'
          cases v with
          | false => exact p2 σ H' m' x' a1
          | true =>
            have p3 : PostS g W D H m ((evSs C b τ h1).turn (fun τ2 h2 => (whileN (evP C t).2 (evSs C b) n' τ2 h2).getD .bad)) := p2
            rw [if_pos rfl]
            refine ⟨fun σ H => ∃ m τ h, At g σ H m τ h ∧ PostS g W D H m r ∧ whileN (evP C t).2 (evSs C b) n' τ h = some r, fun σ' H' h' => ⟨n', Nat.lt_succ_self _, h'⟩, m', τ, h1, a1, ?_⟩
            cases qb : evSs C b τ h1 with
            | bad => rw [qb] at p3; exact p3.elim
            | ex x τ2 h2 => rw [qb] at p3; exact fun c d σ' H2 m2 x2 => p3 c d σ' H2 m2 (x'.trans x2)
            | ok f h2 =>
              rw [qb] at p3
              cases f with
              | nx τ2 => exact fun σ2 H2 m2 x2 a2 => ⟨m2, τ2, h2, a2, p'.ext (x'.trans x2), nxt τ2 h1 h2 qc (.inl qb)⟩
              | ct τ2 => exact fun σ2 H2 m2 x2 a2 => ⟨m2, τ2, h2, a2, p'.ext (x'.trans x2), nxt τ2 h1 h2 qc (.inr qb)⟩
              | bk τ2 => exact fun σ2 H2 m2 x2 a2 => p3 σ2 H2 m2 (x'.trans x2) a2
              | rt d => exact fun v H2 m2 x2 r2 q2 => p3 v H2 m2 (x'.trans x2) r2 q2
    · cases hm
  | .forin t it b, st, X, c, W, hm, ok, hf => by
    unfold mS at hm
    split at hm
    · obtain ⟨hm, h3⟩ := and3 hm
      obtain ⟨h1, h2⟩ := and3 hm
      refine PS.weak (ps_for ok.own ok.calm (sI it _ _ h2 ok) (p_tg ok h1) (sSs b _ h3 ok hf) (fold_of (mI_notSet h2))) fun D σ H ⟨m, τ, h, a, p⟩ => ?_
      refine ⟨m, τ, h, a, ?_⟩
      have p : PostS g W D H m ((evI C it τ h).st τ fun I h1 => forL I t (evSs C b) I.items τ h1) := p
      cases qi : evI C it τ h with
      | bad => rw [qi] at p; exact p.elim
      | ex x h1 => rw [qi] at p; exact fun c d H' m' x r ev => p c d σ H' m' x (a.ext x r) ev
      | ok I h1 =>
        rw [qi] at p
        intro H1 m1 J x1 r1 wk
        refine ⟨fun i k σ Hc => k = I.items.length - i ∧ i ≤ I.items.length ∧ ∃ mc τc hc, Ext H1 m1 Hc mc ∧ At g σ Hc mc τc hc ∧ PostS g W D Hc mc (forL I t (evSs C b) (I.items.drop i) τc hc),
          ⟨I.items.length, by simp, Nat.zero_le _, m1, τ, h1, .refl, a.ext x1 r1, by rw [List.drop_zero]; exact PostS.ext p x1⟩, ?_⟩
        rintro i k σc Hc ⟨rfl, hi, mc, τc, hc, xc, ac, pc⟩
        by_cases hlt : i < I.items.length
        · have ed : I.items.drop i = I.items[i] :: I.items.drop (i + 1) := List.drop_eq_getElem_cons hlt
          rw [ed] at pc
          rw [forL] at pc
          by_cases gu : I.guard hc
          · rw [if_pos gu] at pc
            refine .inr ⟨wk.go i Hc mc hc xc ac.rel gu hlt, fun σ' H' => i + 1 ≤ I.items.length ∧ ∃ mc τc hc, Ext H1 m1 H' mc ∧ At g σ' H' mc τc hc ∧ PostS g W D H' mc (forL I t (evSs C b) (I.items.drop (i + 1)) τc hc), fun σ' H' ⟨l, z⟩ => ⟨I.items.length - (i + 1), by omega, rfl, l, z⟩, fun x H' y => ?_⟩
            obtain ⟨d, e1, qd, x', r'⟩ := wk.yld i Hc mc hc x H' xc ac.rel gu y hlt
            rw [List.getElem?_eq_getElem hlt] at e1
            cases e1
            cases et : setTg t I.items[i] τc with
            | none => rw [et] at pc; exact pc.elim
            | some τ1 =>
              rw [et] at pc
              refine gT_ok qd (ac.sv.stay (ac.rel.stay x')) et _ fun σ2 s2 _ => ?_
              have a2 : At g σ2 H' mc τ1 hc := ⟨r', s2⟩
              refine ⟨mc, τ1, hc, a2, ?_⟩
              have pc' : PostS g W D Hc mc ((evSs C b τ1 hc).turn (forL I t (evSs C b) (I.items.drop (i + 1)))) := pc
              cases qb : evSs C b τ1 hc with
              | bad => rw [qb] at pc'; exact pc'.elim
              | ex x τ2 h2 => rw [qb] at pc'; exact fun c d σ' H2 m2 x2 => pc' c d σ' H2 m2 (x'.trans x2)
              | ok f h2 =>
                rw [qb] at pc'
                cases f with
                | nx τ2 => exact fun σ2 H2 m2 x2 a2 => ⟨hlt, m2, τ2, h2, (xc.trans x').trans x2, a2, PostS.ext pc' (x'.trans x2)⟩
                | ct τ2 => exact fun σ2 H2 m2 x2 a2 => ⟨hlt, m2, τ2, h2, (xc.trans x').trans x2, a2, PostS.ext pc' (x'.trans x2)⟩
                | bk τ2 => exact fun σ2 H2 m2 x2 a2 => pc' σ2 H2 m2 (x'.trans x2) a2
                | rt d => exact fun v H2 m2 x2 r2 q2 => pc' v H2 m2 (x'.trans x2) r2 q2
          · rw [if_neg gu] at pc; exact pc.elim
        · have ei : i = I.items.length := by omega
          subst ei
          rw [List.drop_length, forL] at pc
          by_cases gu : I.guard hc
          · rw [if_pos gu] at pc
            exact .inl ⟨wk.stop Hc mc hc xc ac.rel gu, pc σc Hc mc .refl ac⟩
          · rw [if_neg gu] at pc; exact pc.elim
    · cases hm
  | .brk, st, X, c, W, hm, ok, hf => by
    unfold mS at hm
    split at hm
    · exact PS.weak ps_break fun D σ H ⟨m, τ, h, a, p⟩ => p σ H m .refl a
    · cases hm
  | .cont, st, X, c, W, hm, ok, hf => by
    unfold mS at hm
    split at hm
    · exact PS.weak ps_continue fun D σ H ⟨m, τ, h, a, p⟩ => p σ H m .refl a
    · cases hm
  | .pass, st, X, c, W, hm, ok, hf => by
    unfold mS at hm
    split at hm
    · exact PS.weak ps_pass fun D σ H ⟨m, τ, h, a, p⟩ => p σ H m .refl a
    · cases hm
  | .rais n, st, X, c, W, hm, ok, hf => by
    unfold mS at hm
    split at hm
    · obtain ⟨hm, h3⟩ := and3 hm
      obtain ⟨h1, h2⟩ := and3 hm
      obtain ⟨D, e1, e2, e3, e4, e5, e6⟩ := ok.gf.exc _ _ (of_decide_eq_true h1)
      refine PS.weak (ps_raise ok.calm ok.takes (pmk_own PySem.F.excBase_ValueError e4 e2 e3 (raises_own e5 e6) (gl_of ok.sc h2) (dbg_of h3).1)) fun D' σ H ⟨m, τ, h, a, p⟩ => ?_
      exact p (.ref D) none σ H m .refl a ⟨D, e1, rfl, rfl⟩
    · cases hm
  | .never, st, X, c, W, hm, ok, hf => ⟨fun _ _ _ _ _ _ ⟨_, _, _, _, p⟩ => p.elim⟩
  | .tryx b hs, st, X, c, W, hm, ok, hf => by
    unfold mS at hm
    split at hm
    · obtain ⟨h1, h2⟩ := and3 hm
      obtain ⟨l, hl, w⟩ := sHs ok hs _ h2
      refine PS.weak (ps_try_cl (tb := fun W' => LS g W' (evSs C b)) (Wout := W) ?_ ?_ ok.nd ok.takes (fun W' pn xe tk ow => sSs b _ h1 { ok with takes := tk, own := ow } hf) hl) fun D σ H ⟨m, τ, h, a, p⟩ => ?_
      · exact hf.1
      · exact hf.2
      · refine ⟨m, τ, h, a, ?_⟩
        have p : PostS g W D H m ((evSs C b τ h).hand hs) := p
        rw [ok.K] at *
        cases q : evSs C b τ h with
        | bad => rw [q] at p; exact p.elim
        | ok f h' => rw [q] at p; cases f <;> exact p
        | ex x τ' h' =>
          rw [q] at p
          intro cl d σ' H' m' x' a' ev
          exact w W D x τ' h' cl d σ' H' m' a' ev (PostS.ext p x')
    · cases hm
theorem sSs : ∀ (ss : ISs) (l : List Stmt) {X : Cx} {c : Ck} {W : WX}, mSs c ss l = true → XOk X c g C W k → FrX X → PSs X l (LS g W (evSs C ss))
  | .nil, l, X, c, W, hm, ok, hf => by
    unfold mSs at hm
    split at hm
    · exact PSs.weak pss_nil fun D σ H ⟨m, τ, h, a, p⟩ => p σ H m .refl a
    · cases hm
  | .cons s ss, l, X, c, W, hm, ok, hf => by
    unfold mSs at hm
    split at hm
    · obtain ⟨h1, h2⟩ := and3 hm
      refine PSs.weak (pss_cons (sS s _ h1 ok hf) (sSs ss _ h2 ok hf)) fun D σ H ⟨m, τ, h, a, p⟩ => ?_
      refine ⟨m, τ, h, a, ?_⟩
      have p : PostS g W D H m ((evS C s τ h).seq (evSs C ss)) := p
      cases q : evS C s τ h with
      | bad => rw [q] at p; exact p.elim
      | ex x τ2 h2 => rw [q] at p; exact p
      | ok f h2 =>
        rw [q] at p
        cases f with
        | nx τ2 => exact fun σ2 H2 m2 x2 a2 => ⟨m2, τ2, h2, a2, PostS.ext p x2⟩
        | ct τ2 => exact p
        | bk τ2 => exact p
        | rt d => exact p
    · cases hm
end
end
end DL

set_option Elab.async false
set_option linter.all false
set_option maxRecDepth 100000
namespace DL
open PySem PySem.Spec PyProof.Rows L2

mutual
def D.bel (n : Nat) : D → Bool
  | .tup ds => D.bels n ds | .rol ds => D.bels n ds | .ref k => decide (k < n) | _ => true
def D.bels (n : Nat) : List D → Bool
  | [] => true | d :: ds => D.bel n d && D.bels n ds
end
mutual
def D.ren (ρ : List Nat) : D → D
  | .tup ds => .tup (D.rens ρ ds) | .rol ds => .rol (D.rens ρ ds) | .ref k => .ref (ρ.getD k 0) | d => d
def D.rens (ρ : List Nat) : List D → List D
  | [] => [] | d :: ds => D.ren ρ d :: D.rens ρ ds
end
def OD.bel (n : Nat) : OD → Bool
  | .lst ds => D.bels n ds
  | .dct kvs => D.bels n (kvs.map (·.2))
  | .ins _ fs => D.bels n (fs.map (·.2))
def OD.ren (ρ : List Nat) : OD → OD
  | .lst ds => .lst (D.rens ρ ds)
  | .dct kvs => .dct (kvs.map fun p => (p.1, p.2.ren ρ))
  | .ins c fs => .ins c (fs.map fun p => (p.1, p.2.ren ρ))
def Cl (n : Nat) (h : Hd) : Prop := ∀ o ∈ h, o.bel n = true
mutual
theorem D.bel_of_pure : ∀ {n : Nat} {d : D}, d.pure = true → d.bel n = true
  | _, .non, _ => rfl | _, .bl _, _ => rfl | _, .int _, _ => rfl | _, .str _, _ => rfl
  | _, .tup ds, h => D.bels_of_pure (ds := ds) h
  | _, .rol ds, h => D.bels_of_pure (ds := ds) h
  | _, .ref _, h => by cases h
  | _, .glo _, _ => rfl
theorem D.bels_of_pure : ∀ {n : Nat} {ds : List D}, D.pures ds = true → D.bels n ds = true
  | _, [], _ => rfl
  | _, d :: ds, h => by
    obtain ⟨h1, h2⟩ := and3 h
    show (D.bel _ d && D.bels _ ds) = true
    rw [D.bel_of_pure h1, D.bels_of_pure h2]; rfl
end
section
variable {K : PySem.W.Frag} {H : Hp} {m m' : List Addr} {ρ : List Nat}
mutual
theorem DV.bel : ∀ {v : V} {d : D}, DV K H m v d → d.bel m.length = true
  | _, _, .non => rfl | _, _, .bl _ => rfl | _, _, .int _ => rfl | _, _, .str _ => rfl
  | _, _, .tup _ t => t.bels
  | _, _, .rol _ t => t.bels
  | _, _, .ref e => decide_eq_true (List.getElem?_eq_some_iff.mp e).1
  | _, _, .glo _ => rfl
theorem DVs.bels : ∀ {vs : List V} {ds : List D}, DVs K H m vs ds → D.bels m.length ds = true
  | _, _, .nil => rfl
  | _, _, .cons r t => by
    show (D.bel _ _ && D.bels _ _) = true
    rw [r.bel, t.bels]; rfl
end
/-- m': the places that ρ keeps -/
def pick (m : List Addr) (ρ : List Nat) : List Addr := ρ.map fun k => m.getD k 0
theorem pick_get {i k : Nat} {a : Addr} (hi : ρ[i]? = some k) (ha : m[k]? = some a) : (pick m ρ)[i]? = some a := by
  unfold pick
  rw [List.getElem?_map, hi]
  show some (m.getD k 0) = some a
  rw [List.getD_eq_getElem?_getD, ha]; rfl
mutual
theorem DV.pick : ∀ {v : V} {d : D}, DV K H m v (d.ren ρ) → d.bel ρ.length = true → DV K H (DL.pick m ρ) v d
  | _, .non, h, _ => by cases h; exact .non
  | _, .bl _, h, _ => by cases h; exact .bl _
  | _, .int _, h, _ => by cases h; exact .int _
  | _, .str _, h, _ => by cases h; exact .str _
  | _, .glo _, h, _ => by cases h; exact .glo _
  | _, .tup ds, h, b => by cases h with | tup s t => exact .tup s (DVs.pick (ds := ds) t b)
  | _, .rol ds, h, b => by cases h with | rol s t => exact .rol s (DVs.pick (ds := ds) t b)
  | _, .ref k, h, b => by
    cases h with
    | ref e =>
      have hk : k < ρ.length := of_decide_eq_true b
      refine .ref (pick_get (k := ρ.getD k 0) ?_ e)
      rw [List.getD_eq_getElem?_getD, List.getElem?_eq_getElem hk]; rfl
theorem DVs.pick : ∀ {vs : List V} {ds : List D}, DVs K H m vs (D.rens ρ ds) → D.bels ρ.length ds = true → DVs K H (DL.pick m ρ) vs ds
  | _, [], h, _ => by cases h; exact .nil
  | _, d :: ds, h, b => by
    cases h with
    | cons r t =>
      obtain ⟨b1, b2⟩ := and3 b
      exact .cons (DV.pick r b1) (DVs.pick t b2)
end
end
section
variable {g : Gd} {H H' : Hp} {m m1 : List Addr} {h h1 h2 : Hd}
theorem OV.bel {a : Addr} {o : OD} (x : OV g H m a o) : o.bel m.length = true := by
  cases o with
  | lst ds => obtain ⟨xs, _, q⟩ := x; exact q.bels
  | dct kvs => obtain ⟨_, _, _, q⟩ := x; exact q.bels
  | ins c fs => obtain ⟨_, _, _, _, _, _, q⟩ := x; exact q.bels
theorem Rel.cl (r : Rel g H m h) : Cl h.length h := fun o ho => by
  obtain ⟨n, hn, e⟩ := List.getElem_of_mem ho
  obtain ⟨a, _, x⟩ := r.get (n := n) (o := o) (by rw [List.getElem?_eq_getElem hn, e])
  rw [← r.len]; exact x.bel

/-- what stands behind a def's body, with what is no longer reached forgotten -/
structure View (n0 : Nat) (ds1 : List D) (h1 : Hd) (ds2 : List D) (h2 : Hd) (ρ : List Nat) : Prop where
  len : ρ.length = h2.length
  pre : ∀ i, i < n0 → ρ[i]? = some i
  le : n0 ≤ h2.length
  nd : ρ.Nodup
  lt : ∀ k ∈ ρ, k < h1.length
  ds : ds1 = D.rens ρ ds2
  bel : D.bels h2.length ds2 = true
  obj : ∀ (i k : Nat) o, ρ[i]? = some k → h2[i]? = some o → h1[k]? = some (o.ren ρ) ∧ o.bel h2.length = true
theorem snd_ren {α : Type} {ρ : List Nat} : ∀ {fs : List (α × D)}, (fs.map fun p => (p.1, D.ren ρ p.2)).map (·.2) = D.rens ρ (fs.map (·.2))
  | [] => rfl
  | p :: fs => by show D.ren ρ p.2 :: _ = D.ren ρ p.2 :: _; rw [snd_ren]
theorem fst_ren {α : Type} {ρ : List Nat} {fs : List (α × D)} : (fs.map fun p => (p.1, D.ren ρ p.2)).map (·.1) = fs.map (·.1) := by rw [List.map_map]; rfl
theorem map_ren {α : Type} {n : Nat} {ρ : List Nat} (hd : ∀ d : D, d.bel n = true → d.ren ρ = d) : ∀ {fs : List (α × D)}, D.bels n (fs.map (·.2)) = true → (fs.map fun p => (p.1, D.ren ρ p.2)) = fs
  | [], _ => rfl
  | p :: fs, h => by
    obtain ⟨h1, h2⟩ := and3 h
    show (p.1, D.ren ρ p.2) :: _ = _
    rw [hd _ h1, map_ren hd h2]
theorem OV.pick {a : Addr} {o : OD} {ρ : List Nat} (x : OV g H m1 a (o.ren ρ)) (b : o.bel ρ.length = true) : OV g H (DL.pick m1 ρ) a o := by
  cases o with
  | lst ds => obtain ⟨xs, e, q⟩ := x; exact ⟨xs, e, q.pick b⟩
  | dct kvs =>
    obtain ⟨ks, e1, q1, q2⟩ := x
    refine ⟨ks, e1, ?_, ?_⟩
    · rw [← q1]; exact fst_ren.symm
    · rw [snd_ren] at q2; exact q2.pick b
  | ins c fs =>
    obtain ⟨Ca, dx, gs, e1, e2, q1, q2⟩ := x
    refine ⟨Ca, dx, gs, e1, e2, ?_, ?_⟩
    · rw [q1, List.map_map]; rfl
    · have e3 : (fs.map fun p => (p.1, D.ren ρ p.2)).map (·.2) = D.rens ρ (fs.map (·.2)) := by
        clear q1 q2 b e2
        induction fs with
        | nil => rfl
        | cons p fs ih => show D.ren ρ p.2 :: _ = D.ren ρ p.2 :: _; rw [ih]
      rw [e3] at q2
      exact q2.pick b
theorem nodup_idx {l : List Nat} (h : l.Nodup) {i j k : Nat} (e1 : l[i]? = some k) (e2 : l[j]? = some k) : i = j := by
  obtain ⟨h1, e1⟩ := List.getElem?_eq_some_iff.mp e1
  obtain ⟨h2, e2⟩ := List.getElem?_eq_some_iff.mp e2
  exact (List.getElem_inj h).mp (e1.trans e2.symm)
theorem View.rel {n0 : Nat} {ds1 ds2 : List D} {ρ : List Nat} (w : View n0 ds1 h1 ds2 h2 ρ) (r : Rel g H m1 h1) : Rel g H (pick m1 ρ) h2 where
  len := by unfold pick; rw [List.length_map]; exact w.len
  nd := by
    unfold pick
    have key : ∀ l : List Nat, l.Nodup → (∀ k ∈ l, k < m1.length) → (l.map fun k => m1.getD k 0).Nodup := by
      intro l
      induction l with
      | nil => intro _ _; simp
      | cons k l ih =>
        intro hn hl
        rw [List.map_cons, List.nodup_cons]
        rw [List.nodup_cons] at hn
        refine ⟨fun hm => ?_, ih hn.2 fun j hj => hl j (List.mem_cons_of_mem _ hj)⟩
        obtain ⟨j, hj, ej⟩ := List.mem_map.mp hm
        have hk := hl k List.mem_cons_self
        have hj' := hl j (List.mem_cons_of_mem _ hj)
        simp only [List.getD_eq_getElem?_getD, List.getElem?_eq_getElem hk, List.getElem?_eq_getElem hj', Option.getD_some] at ej
        have : j = k := (List.getElem_inj r.nd).mp ej
        subst this
        exact hn.1 hj
    exact key ρ w.nd fun k hk => by rw [r.len]; exact w.lt k hk
  obj := fun i a o e1 e2 => by
    have hi : i < ρ.length := by
      obtain ⟨q, _⟩ := List.getElem?_eq_some_iff.mp e2
      rw [w.len]; exact q
    have ek : ρ[i]? = some ρ[i] := List.getElem?_eq_getElem hi
    obtain ⟨q1, q2⟩ := w.obj i ρ[i] o ek e2
    obtain ⟨b, eb, x⟩ := r.get q1
    have : a = b := by rw [pick_get ek eb] at e1; exact (Option.some.inj e1).symm
    subst this
    exact x.pick (by rw [w.len]; exact q2)
  tabs := r.tabs
theorem View.ext {ds1 ds2 : List D} {ρ : List Nat} (w : View m.length ds1 h1 ds2 h2 ρ) (r : Rel g H' m1 h1) (x : Ext H m H' m1) : Ext H m H' (pick m1 ρ) := by
  obtain ⟨e, rfl, pe⟩ := x.pre
  refine ⟨⟨(pick (m ++ e) ρ).drop m.length, ?_, fun a ha => ?_⟩, x.keep⟩
  · have tk : (pick (m ++ e) ρ).take m.length = m := by
      refine List.ext_getElem? fun i => ?_
      rw [List.getElem?_take]
      by_cases hi : i < m.length
      · rw [if_pos hi]
        rw [List.getElem?_eq_getElem hi]
        exact pick_get (w.pre i hi) (by rw [List.getElem?_append_left hi, List.getElem?_eq_getElem hi])
      · rw [if_neg hi, List.getElem?_eq_none (by omega)]
    have q := (List.take_append_drop m.length (pick (m ++ e) ρ)).symm
    rw [tk] at q
    exact q
  · obtain ⟨i, hi, ei⟩ := List.getElem_of_mem ha
    rw [List.length_drop] at hi
    rw [List.getElem_drop] at ei
    have hlen : (pick (m ++ e) ρ).length = ρ.length := by unfold pick; rw [List.length_map]
    have hi' : m.length + i < ρ.length := by omega
    have ek : ρ[m.length + i]? = some ρ[m.length + i] := List.getElem?_eq_getElem hi'
    have hk : ρ[m.length + i] < h1.length := w.lt _ (List.getElem_mem hi')
    have hk2 : ρ[m.length + i] < (m ++ e).length := by rw [r.len]; exact hk
    have ge : m.length ≤ ρ[m.length + i] := by
      refine Nat.le_of_not_lt fun z => ?_
      have := nodup_idx w.nd (w.pre _ z) ek
      omega
    have ea : a = (m ++ e)[ρ[m.length + i]] := by
      have q := pick_get ek (List.getElem?_eq_getElem hk2)
      rw [List.getElem?_eq_getElem (by rw [hlen]; exact hi')] at q
      rw [← ei]
      exact Option.some.inj q
    rw [List.getElem_append_right ge] at ea
    exact pe a (by rw [ea]; exact List.getElem_mem _)
end

def Leads (n0 : Nat) : Res D → Res D → Prop
  | .ok d1 h1, .ok d2 h2 => ∃ ρ, View n0 [d1] h1 [d2] h2 ρ
  | .ex x1 h1, .ex x2 h2 => x1.cls = x2.cls ∧ x1.fs.map (·.1) = x2.fs.map (·.1) ∧ ∃ ρ, View n0 (x1.fs.map (·.2)) h1 (x2.fs.map (·.2)) h2 ρ
  | _, _ => False
def Rfn (F run : Fn) : Prop := ∀ ds h, D.bels h.length ds = true → Cl h.length h → F ds h = .bad ∨ Leads h.length (run ds h) (F ds h)
mutual
theorem D.ren_of {n : Nat} {ρ : List Nat} (hρ : ∀ k, k < n → ρ.getD k 0 = k) : ∀ {d : D}, d.bel n = true → d.ren ρ = d
  | .non, _ => rfl | .bl _, _ => rfl | .int _, _ => rfl | .str _, _ => rfl | .glo _, _ => rfl
  | .tup ds, h => congrArg D.tup (D.rens_of hρ (ds := ds) h)
  | .rol ds, h => congrArg D.rol (D.rens_of hρ (ds := ds) h)
  | .ref k, h => congrArg D.ref (hρ k (of_decide_eq_true h))
theorem D.rens_of {n : Nat} {ρ : List Nat} (hρ : ∀ k, k < n → ρ.getD k 0 = k) : ∀ {ds : List D}, D.bels n ds = true → D.rens ρ ds = ds
  | [], _ => rfl
  | d :: ds, h => by
    obtain ⟨h1, h2⟩ := and3 h
    show D.ren _ d :: D.rens _ ds = _
    rw [D.ren_of hρ h1, D.rens_of hρ h2]
end
theorem OD.ren_of {n : Nat} {ρ : List Nat} (hρ : ∀ k, k < n → ρ.getD k 0 = k) {o : OD} (h : o.bel n = true) : o.ren ρ = o := by
  cases o with
  | lst ds => exact congrArg OD.lst (D.rens_of hρ h)
  | dct kvs => exact congrArg OD.dct (map_ren (fun d hd => D.ren_of hρ hd) h)
  | ins c fs =>
    refine congrArg (OD.ins c) ?_
    have h' : ∀ p ∈ fs, p.2.bel n = true := by
      intro p hp
      have hh : D.bels n (fs.map (·.2)) = true := h
      clear h
      induction fs with
      | nil => cases hp
      | cons q fs ih =>
        obtain ⟨h1, h2⟩ := and3 hh
        rcases List.mem_cons.mp hp with rfl | hp
        · exact h1
        · exact ih hp h2
    calc fs.map (fun p => (p.1, p.2.ren ρ)) = fs.map id := by
          refine List.map_congr_left fun p hp => ?_
          rw [D.ren_of hρ (h' p hp)]; rfl
      _ = fs := List.map_id _
theorem rng_id {n : Nat} : ∀ k, k < n → (List.range n).getD k 0 = k := fun k hk => by
  rw [List.getD_eq_getElem?_getD, List.getElem?_range hk]; rfl
theorem D.ren_id {n : Nat} {d : D} (h : d.bel n = true) : d.ren (List.range n) = d := D.ren_of rng_id h
theorem D.rens_id {n : Nat} {ds : List D} (h : D.bels n ds = true) : D.rens (List.range n) ds = ds := D.rens_of rng_id h
theorem OD.ren_id {n : Nat} {o : OD} (h : o.bel n = true) : o.ren (List.range n) = o := OD.ren_of rng_id h
mutual
theorem D.bel_mono {n n' : Nat} (hn : n ≤ n') : ∀ {d : D}, d.bel n = true → d.bel n' = true
  | .non, _ => rfl | .bl _, _ => rfl | .int _, _ => rfl | .str _, _ => rfl | .glo _, _ => rfl
  | .tup ds, h => D.bels_mono hn (ds := ds) h
  | .rol ds, h => D.bels_mono hn (ds := ds) h
  | .ref k, h => decide_eq_true (Nat.lt_of_lt_of_le (of_decide_eq_true h) hn)
theorem D.bels_mono {n n' : Nat} (hn : n ≤ n') : ∀ {ds : List D}, D.bels n ds = true → D.bels n' ds = true
  | [], _ => rfl
  | d :: ds, h => by
    obtain ⟨h1, h2⟩ := and3 h
    show (D.bel _ d && D.bels _ ds) = true
    rw [D.bel_mono hn h1, D.bels_mono hn h2]; rfl
end
theorem OD.bel_mono {n n' : Nat} (hn : n ≤ n') {o : OD} (h : o.bel n = true) : o.bel n' = true := by
  cases o with
  | lst ds => exact D.bels_mono hn h
  | dct kvs => exact D.bels_mono hn h
  | ins c fs => exact D.bels_mono hn h
theorem bel_app {n : Nat} {xs ys : List D} : D.bels n (xs ++ ys) = (D.bels n xs && D.bels n ys) := by
  induction xs with
  | nil => simp [D.bels]
  | cons x xs ih => show (D.bel n x && D.bels n (xs ++ ys)) = ((D.bel n x && D.bels n xs) && D.bels n ys); rw [ih, Bool.and_assoc]
theorem View.keep {n0 : Nat} {ds : List D} {h2 junk : Hd} (hl : h2.length = n0) (b : D.bels n0 ds = true) (c : Cl n0 h2) : View n0 ds (h2 ++ junk) ds h2 (List.range n0) where
  len := by simp [hl]
  pre := fun i hi => List.getElem?_range hi
  le := Nat.le_of_eq hl.symm
  nd := List.nodup_range
  lt := fun k hk => by have := List.mem_range.mp hk; simp; omega
  ds := (D.rens_id b).symm
  bel := by rw [hl]; exact b
  obj := fun i k o e1 e2 => by
    have hi : i < n0 := by
      obtain ⟨q, _⟩ := List.getElem?_eq_some_iff.mp e2
      omega
    rw [List.getElem?_range hi] at e1
    cases e1
    have ho := List.mem_of_getElem? e2
    rw [hl]
    exact ⟨by rw [List.getElem?_append_left (by omega), e2, OD.ren_id (c o ho)], c o ho⟩
/-- nothing new is handed back, the heap as it was -/
theorem Leads.keep {n0 : Nat} {d : D} {h2 junk : Hd} (hl : h2.length = n0) (b : d.bel n0 = true) (c : Cl n0 h2) : Leads n0 (.ok d (h2 ++ junk)) (.ok d h2) :=
  ⟨_, View.keep hl (by show (d.bel n0 && true) = true; rw [b]; rfl) c⟩
theorem Leads.pure {d : D} {h junk : Hd} (b : d.bel h.length = true) (c : Cl h.length h) : Leads h.length (.ok d (h ++ junk)) (.ok d h) := .keep rfl b c
theorem Leads.same {d : D} {h : Hd} (b : d.bel h.length = true) (c : Cl h.length h) : Leads h.length (.ok d h) (.ok d h) := by
  have := Leads.keep (junk := []) rfl b c
  rwa [List.append_nil] at this
theorem Leads.keepX {n0 : Nat} {x : Exn} {h2 junk : Hd} (hl : h2.length = n0) (b : D.bels n0 (x.fs.map (·.2)) = true) (c : Cl n0 h2) : Leads n0 (.ex x (h2 ++ junk)) (.ex x h2) :=
  ⟨rfl, rfl, _, View.keep hl b c⟩
/-- a new list is handed back -/
theorem Leads.lst {n0 : Nat} {ds : List D} {h2 j1 j2 : Hd} (hl : h2.length = n0) (b : D.bels n0 ds = true) (c : Cl n0 h2) :
    Leads n0 (.ok (.ref (n0 + j1.length)) (h2 ++ (j1 ++ (.lst ds :: j2)))) (.ok (.ref n0) (h2 ++ [.lst ds])) := by
  have hρ : ∀ k, k < n0 → (List.range n0 ++ [n0 + j1.length]).getD k 0 = k := fun k hk => by
    rw [List.getD_eq_getElem?_getD, List.getElem?_append_left (by simpa using hk), List.getElem?_range hk]; rfl
  have hlast : (List.range n0 ++ [n0 + j1.length])[n0]? = some (n0 + j1.length) := by
    rw [List.getElem?_append_right (by simp)]; simp
  refine ⟨List.range n0 ++ [n0 + j1.length], ?_⟩
  exact {
    len := by simp [hl]
    pre := fun i hi => by rw [List.getElem?_append_left (by simpa using hi), List.getElem?_range hi]
    le := by simp [hl]
    nd := List.nodup_append.mpr ⟨List.nodup_range, by simp, fun a ha b hb => by
      have h1 := List.mem_range.mp ha
      have h2 := List.mem_singleton.mp hb
      omega⟩
    lt := fun k hk => by
      rcases List.mem_append.mp hk with z | z
      · have := List.mem_range.mp z
        simp only [List.length_append, List.length_cons]; omega
      · have := List.mem_singleton.mp z
        simp only [List.length_append, List.length_cons]; omega
    ds := by
      show [D.ref (n0 + j1.length)] = [D.ref ((List.range n0 ++ [n0 + j1.length]).getD n0 0)]
      rw [List.getD_eq_getElem?_getD, hlast]; rfl
    bel := by
      show (decide (n0 < (h2 ++ [OD.lst ds]).length) && true) = true
      simp [hl]
    obj := fun i k o e1 e2 => by
      have le : n0 ≤ (h2 ++ [OD.lst ds]).length := by simp [hl]
      by_cases hi : i < n0
      · rw [List.getElem?_append_left (by simpa using hi), List.getElem?_range hi] at e1
        cases e1
        rw [List.getElem?_append_left (by omega)] at e2
        have ho := c o (List.mem_of_getElem? e2)
        exact ⟨by rw [List.getElem?_append_left (by omega), e2, OD.ren_of hρ ho], OD.bel_mono le ho⟩
      · have ei : i = n0 := by
          obtain ⟨q, _⟩ := List.getElem?_eq_some_iff.mp e2
          simp only [List.length_append, List.length_cons, List.length_nil, hl] at q
          omega
        subst ei
        rw [hlast] at e1
        cases e1
        rw [List.getElem?_append_right (by omega)] at e2
        simp only [hl, Nat.sub_self, List.getElem?_cons_zero, Option.some.injEq] at e2
        subst e2
        have ho : (OD.lst ds).bel i = true := b
        refine ⟨?_, OD.bel_mono le ho⟩
        rw [OD.ren_of hρ ho, List.getElem?_append_right (by omega), hl]
        have e3 : i + j1.length - i = j1.length := by omega
        rw [e3, List.getElem?_append_right (Nat.le_refl _)]
        simp }
end DL

set_option Elab.async false
set_option linter.all false
set_option maxRecDepth 100000
namespace DL
open PySem PySem.Spec PyProof.Rows L2
noncomputable def runB (C : Tab) (body : ISs) (n : Nat) : Fn := fun ds h => match evSs C body (startD n ds) h with
  | .ok (.nx _) h' => .ok .non h'
  | .ok (.rt d) h' => .ok d h'
  | .ex x _ h' => .ex x h'
  | _ => .bad
/-- a def's meaning by its body, p parameters -/
noncomputable def runP (C : Tab) (body : ISs) (n p : Nat) : Fn := fun ds h => if ds.length = p then runB C body n ds h else .bad
section
variable {g : Gd} {H H' : Hp} {m m1 : List Addr} {h h1 h2 : Hd}
/-- from what a body leads to, to what is promised -/
theorem PF.of_leads {Q : VK} {E : XK} {r1 r2 : Res D} (l : Leads m.length r1 r2) (p : PF g H m Q E r2) : PF g H m Q E r1 := by
  cases r1 with
  | bad => cases r2 <;> exact l.elim
  | ok d1 h1 => cases r2 with
    | ok d2 h2 =>
      obtain ⟨ρ, w⟩ := l
      intro v H' m' x r q
      have q' : DV g.K H' m' v (d2.ren ρ) := by
        have e : d1 = d2.ren ρ := by have := w.ds; cases this; rfl
        rw [← e]; exact q
      exact p v H' _ (w.ext r x) (w.rel r) (q'.pick (by rw [w.len]; exact (and3 w.bel).1))
    | _ => exact l.elim
  | ex x1 h1 => cases r2 with
    | ex x2 h2 =>
      obtain ⟨e1, e2, ρ, w⟩ := l
      intro c d H' m' x r ev
      refine p c d H' _ (w.ext r x) (w.rel r) ?_
      obtain ⟨C, c1, c2, c3⟩ := ev
      refine ⟨C, by rw [← e1]; exact c1, c2, ?_⟩
      cases d with
      | none =>
        have : x1.fs = [] := c3
        rw [this] at e2
        show x2.fs = []
        cases x2f : x2.fs with
        | nil => rfl
        | cons _ _ => rw [x2f] at e2; cases e2
      | some a =>
        obtain ⟨fs, q1, q2, q3⟩ := c3
        refine ⟨fs, q1, q2.trans e2, ?_⟩
        rw [w.ds] at q3
        exact q3.pick (by rw [w.len]; exact w.bel)
    | _ => exact l.elim
end
section
variable {P : Program} {w : World} {K : PySem.W.Frag} {mg : Str → Option Value} {base : Heap} {g : Gd}
theorem fnOk_core {x qual : Str} {params : Arguments} {sts : List Stmt} {scope : Scope} {f : Addr} {fd : FuncData} {N ps : List Str} {k : Nat} {c : Ck} {C : Tab} {body : ISs} {F : Fn}
    (Fu : FunD K x qual params sts scope [] [] f fd) (S : FnScope N ps scope) (hK : K = g.K)
    (cN : c.N = N) (cS : c.sc = scope) (hm : mSs c body sts = true) (free : ∀ x, c.free.contains x = true → mg x = none) (lam : c.lam = true → LamOk g base mg fd.code (qual ++ ".<locals>.") k) (gf : GF g K mg c.tb)
    (fns : ∀ f x n, c.fns.lookup f = some (x, n) → FnD P w K mg base k g x n (C f)) (ref : ∀ (H : Hp) (m : List Addr) (Q : VK) (E : XK) ds h, Rel g H m h → D.bels m.length ds = true → ds.length = ps.length → PF g H m Q E (F ds h) → PF g H m Q E (runB C body N.length ds h)) :
    FnOk P w K mg base (L2.CX P w) (k + 4) f fd ps (spF g ps.length F) := by
  obtain ⟨oc, od, dV, kV, doc, pm, an, cdv, ct, osl, rfl, lk, hcd, hD, hKw⟩ := Fu.ex
  have ln : ∀ vs H Q E, spF g ps.length F vs H Q E → vs.length = ps.length := fun vs H Q E ⟨m, h, ds, r, q, hl, p⟩ => by rw [q.length]; exact hl
  refine fn_of (CX := L2.CX P w) (k := k + 3) (sp := spF g ps.length F) lk hcd S ln ?_
  intro A outer s H vs Q E hr ⟨m, h, ds, r, q, hl, p⟩
  have ok : XOk (cxOf (L2.CX P w) P w K mg base N qual scope f cdv A outer s H E) c g C (fun cls d _ H => E cls d H) k := {
    N := cN.symm
    nd := S.nd
    sc := by rw [cS]; rfl
    kind := S.kind
    ckind := by rw [cS]; exact S.kind
    K := hK
    calm := rfl
    cells := fun _ _ => rfl
    free := free
    fns := fns
    room := hr
    lam := lam
    takes := takes_of rfl rfl rfl rfl
    own := passes_of rfl
    gf := gf }
  refine ⟨_, sSs body _ hm ok ⟨rfl, rfl⟩, m, startD N.length ds, h, ⟨r, ?_⟩, ?_⟩
  · rw [← hK]
    refine start_sv (by rw [hK]; exact q) ?_
    rw [q.length, hl]
    have := congrArg List.length S.pre
    rw [List.length_take] at this
    omega
  · have p' := ref H m Q E ds h r q.bels hl p
    have e : runB C body N.length ds h = (match evSs C body (startD N.length ds) h with | .ok (.nx _) h' => .ok .non h' | .ok (.rt d) h' => .ok d h' | .ex x _ h' => .ex x h' | _ => .bad) := rfl
    rw [e] at p'
    revert p'
    cases evSs C body (startD N.length ds) h with
    | bad => exact fun p' => p'.elim
    | ex x τ h' => exact fun p' c d σ' H' m' x' a ev => p' c d H' m' x' a.rel ev
    | ok fl h' =>
      cases fl with
      | nx τ => exact fun p' σ' H' m' x' a => p' .non H' m' x' a.rel .non
      | rt d => exact fun p' v H' m' x' r q => p' v H' m' x' r q
      | bk τ => exact fun p' => p'.elim
      | ct τ => exact fun p' => p'.elim
theorem fnD_core {x qual : Str} {params : Arguments} {sts : List Stmt} {scope : Scope} {f : Addr} {fd : FuncData} {N ps : List Str} {k : Nat} {c : Ck} {C : Tab} {body : ISs} {F : Fn}
    (Fu : FunD K x qual params sts scope [] [] f fd) (hmg : mg x = some (.ref f)) (bd : Binds K fd ps []) (S : FnScope N ps scope) (hK : K = g.K)
    (cN : c.N = N) (cS : c.sc = scope) (hm : mSs c body sts = true) (free : ∀ x, c.free.contains x = true → mg x = none) (lam : c.lam = true → LamOk g base mg fd.code (qual ++ ".<locals>.") k) (gf : GF g K mg c.tb)
    (fns : ∀ f x n, c.fns.lookup f = some (x, n) → FnD P w K mg base k g x n (C f)) (ref : ∀ (H : Hp) (m : List Addr) (Q : VK) (E : XK) ds h, Rel g H m h → D.bels m.length ds = true → ds.length = ps.length → PF g H m Q E (F ds h) → PF g H m Q E (runB C body N.length ds h)) (len : ∀ ds h, ds.length ≠ ps.length → F ds h = .bad) :
    FnD P w K mg base (k + 4) g x ps.length F :=
  ⟨len, f, fd, ps, hmg, Fu.kp, bd, rfl, fnOk_core Fu S hK cN cS hm free lam gf fns ref⟩
theorem fnD_of {x qual : Str} {params : Arguments} {sts : List Stmt} {scope : Scope} {f : Addr} {fd : FuncData} {N ps : List Str} {k : Nat} {c : Ck} {C : Tab} {body : ISs} {F : Fn}
    (Fu : FunD K x qual params sts scope [] [] f fd) (hmg : mg x = some (.ref f)) (bd : Binds K fd ps []) (S : FnScope N ps scope) (hK : K = g.K)
    (cN : c.N = N) (cS : c.sc = scope) (hm : mSs c body sts = true) (free : ∀ x, c.free.contains x = true → mg x = none) (lam : c.lam = true → LamOk g base mg fd.code (qual ++ ".<locals>.") k) (gf : GF g K mg c.tb)
    (fns : ∀ f x n, c.fns.lookup f = some (x, n) → FnD P w K mg base k g x n (C f)) (ref : Rfn F (runB C body N.length)) (len : ∀ ds h, ds.length ≠ ps.length → F ds h = .bad) :
    FnD P w K mg base (k + 4) g x ps.length F :=
  fnD_core Fu hmg bd S hK cN cS hm free lam gf fns (fun H m Q E ds h r q hl p => by
    rcases ref ds h (by rw [← r.len]; exact q) r.cl with z | z
    · rw [z] at p; exact p.elim
    · exact PF.of_leads (m := m) (by rw [r.len]; exact z) p) len
theorem fnOk_run {x qual : Str} {params : Arguments} {sts : List Stmt} {scope : Scope} {f : Addr} {fd : FuncData} {N ps : List Str} {k : Nat} {c : Ck} {C : Tab} {body : ISs}
    (Fu : FunD K x qual params sts scope [] [] f fd) (S : FnScope N ps scope) (hK : K = g.K)
    (cN : c.N = N) (cS : c.sc = scope) (hm : mSs c body sts = true) (free : ∀ x, c.free.contains x = true → mg x = none) (lam : c.lam = true → LamOk g base mg fd.code (qual ++ ".<locals>.") k) (gf : GF g K mg c.tb)
    (fns : ∀ f x n, c.fns.lookup f = some (x, n) → FnD P w K mg base k g x n (C f)) :
    FnOk P w K mg base (L2.CX P w) (k + 4) f fd ps (spF g ps.length (runP C body N.length ps.length)) :=
  fnOk_core Fu S hK cN cS hm free lam gf fns (fun H m Q E ds h r q hl p => by
    unfold runP at p
    rw [if_pos hl] at p
    exact p)
theorem fnD_run {x qual : Str} {params : Arguments} {sts : List Stmt} {scope : Scope} {f : Addr} {fd : FuncData} {N ps : List Str} {k : Nat} {c : Ck} {C : Tab} {body : ISs}
    (Fu : FunD K x qual params sts scope [] [] f fd) (hmg : mg x = some (.ref f)) (bd : Binds K fd ps []) (S : FnScope N ps scope) (hK : K = g.K)
    (cN : c.N = N) (cS : c.sc = scope) (hm : mSs c body sts = true) (free : ∀ x, c.free.contains x = true → mg x = none) (lam : c.lam = true → LamOk g base mg fd.code (qual ++ ".<locals>.") k) (gf : GF g K mg c.tb)
    (fns : ∀ f x n, c.fns.lookup f = some (x, n) → FnD P w K mg base k g x n (C f)) :
    FnD P w K mg base (k + 4) g x ps.length (runP C body N.length ps.length) :=
  fnD_core Fu hmg bd S hK cN cS hm free lam gf fns (fun H m Q E ds h r q hl p => by
    unfold runP at p
    rw [if_pos hl] at p
    exact p) fun ds h hl => by unfold runP; rw [if_neg hl]
theorem FnD.mono {x : Str} {n j k : Nat} {F : Fn} (d : FnD P w K mg base j g x n F) (h : j ≤ k) : FnD P w K mg base k g x n F := by
  obtain ⟨l, f, fd, ps, a, b, c, e, q⟩ := d
  exact ⟨l, f, fd, ps, a, b, c, e, q.mono h⟩
end
end DL

set_option Elab.async false
set_option linter.all false
set_option maxRecDepth 100000
namespace DL
open PySem PySem.Spec PyProof.Rows L2
def lamQ (p : He.Defn) : Str := p.1 ++ ".<locals>." ++ "<lambda>"
def gdT (tf : List He.Defn) (K : PySem.W.Frag) : List (Addr × Str) := tf.map fun p => ((He.cT K p).2, lamQ p)
def excCB (K : PySem.W.Frag) (D : Addr) : Bool := decide (PySem.W.findIn K (.ref D) "__getattribute__" = some (some (.builtin "BaseException.__getattribute__"))) && (decide (PySem.W.findIn K (.ref D) "__getattr__" = some none) && (decide (PySem.W.subIn K (.ref D) (.type "BaseException") = some true) && (PySem.W.hasDictIn K D && (decide (PySem.W.findIn K (.ref D) "__class__" = some (some (.builtin "object.__class__"))) && (decide (PySem.W.specialIn K (.builtin "object.__class__") "__get__" = some (some (.builtin "getset_descriptor.__get__"))) && (decide (PySem.W.takesIn K (.builtin "object.__class__") = some true) && decide (PySem.W.mroIn K D (.type "object") = some true)))))))
theorem excCB_ok {K : PySem.W.Frag} {D : Addr} (h : excCB K D = true) : ExcC K D := by
  obtain ⟨h1, h⟩ := and3 h
  obtain ⟨h2, h⟩ := and3 h
  obtain ⟨h3, h⟩ := and3 h
  obtain ⟨h4, h⟩ := and3 h
  obtain ⟨h5, h⟩ := and3 h
  obtain ⟨h6, h⟩ := and3 h
  obtain ⟨h7, h8⟩ := and3 h
  exact ⟨of_decide_eq_true h1, of_decide_eq_true h2, of_decide_eq_true h3, h4, of_decide_eq_true h5, of_decide_eq_true h6, of_decide_eq_true h7, of_decide_eq_true h8⟩
/-- a class that is asked for: an own one, or ValueError -/
def askB (K : PySem.W.Frag) (y : Str) (one : Value → Bool) : Bool := ((He.Fa.glo y).ok K && (dbgB y && one (.ref (He.ga K y)))) || (decide (y = "ValueError") && ((He.Fa.free y).ok K && one (.type "ValueError")))
def clsG (cls : List Str) (K : PySem.W.Frag) (n : Nat) : Option Addr := (cls[n]?).map (He.ga K)
def tbB (cls : List Str) (t : Tb) (K : PySem.W.Frag) : Bool :=
  (t.gints.all fun p => (He.Fa.int p.1 p.2).ok K) &&
  ((t.excs.all fun p => decide (cls[p.1]? = some p.2) && ((He.Fa.glo p.2).ok K && (He.Fa.exc p.2).ok K)) &&
  ((t.efs.all fun p => match cls[p.1]? with | some x => xfB K (He.ga K x) && decide (PySem.W.findIn K (.ref (He.ga K x)) p.2 = some none) | none => false) &&
  ((t.isx.all fun p => match cls[p.1.1]? with | some x => excCB K (He.ga K x) && askB K p.1.2 (fun u => decide (PySem.W.kitOne K (.ref (He.ga K x)) u = some p.2)) | none => false) &&
  (t.exm.all fun p => match cls[p.1.1]? with | some x => askB K p.1.2 (fun u => decide (PySem.W.exmOne K (.ref (He.ga K x)) u = some p.2)) | none => false))))
theorem lk_mem {α β : Type} [BEq α] [LawfulBEq α] {a : α} {b : β} : ∀ {l : List (α × β)}, l.lookup a = some b → (a, b) ∈ l
  | [], h => by cases h
  | (x, y) :: r, h => by
    rw [List.lookup_cons] at h
    cases q : (a == x) with
    | true =>
      rw [q] at h
      cases h
      rw [beq_iff_eq.mp q]
      exact List.mem_cons_self
    | false =>
      rw [q] at h
      exact List.mem_cons_of_mem _ (lk_mem h)
theorem askB_ok {K : PySem.W.Frag} {h : Heap} {mg : Str → Option Value} (X : K.In h) (G : h.Ns mainGlobals mg) {y : Str} {one : Value → Bool} (e : askB K y one = true) : ∃ u v, NameV mg y u v ∧ one u = true := by
  unfold askB at e
  rcases Bool.or_eq_true_iff.mp e with e | e
  · obtain ⟨e1, e⟩ := and3 e
    obtain ⟨e2, e3⟩ := and3 e
    exact ⟨.ref (He.ga K y), .ref (He.ga K y), ⟨.inl (He.glo_ok X G e1), rfl, fun u' r => r, (dbg_of e2).1⟩, e3⟩
  · obtain ⟨e1, e⟩ := and3 e
    obtain ⟨e2, e3⟩ := and3 e
    have ey : y = "ValueError" := of_decide_eq_true e1
    subst ey
    exact ⟨.type "ValueError", .ty "ValueError", ⟨.inr ⟨He.free_ok X G e2, by decide +kernel, by decide +kernel⟩, rfl, fun u' r => r, by decide +kernel⟩, e3⟩
theorem gf_of {cls : List Str} {t : Tb} {K : PySem.W.Frag} {h : Heap} {mg : Str → Option Value} {g : Gd} (X : K.In h) (G : h.Ns mainGlobals mg) (hc : g.cl = clsG cls K) (e : tbB cls t K = true) : GF g K mg t := by
  unfold tbB at e
  obtain ⟨e1, e⟩ := and3 e
  obtain ⟨e2, e⟩ := and3 e
  obtain ⟨e3, e⟩ := and3 e
  obtain ⟨e4, e5⟩ := and3 e
  refine ⟨fun x i q => He.int_ok X G (List.all_eq_true.mp e1 _ (lk_mem q)), fun n x q => ?_, fun n f q => ?_, fun n y b q => ?_, fun n y b q => ?_⟩
  · obtain ⟨q1, q2⟩ := and3 (List.all_eq_true.mp e2 _ (lk_mem q))
    obtain ⟨q2, q3⟩ := and3 q2
    obtain ⟨q4, q5, q6, q7⟩ := He.exc_ok q3
    have hx : cls[n]? = some x := of_decide_eq_true q1
    exact ⟨He.ga K x, by rw [hc]; unfold clsG; rw [hx]; rfl, He.glo_ok X G q2, q5, q4, q6, q7⟩
  · have q' := List.all_eq_true.mp e3 (n, f) (by simpa using q)
    dsimp only at q'
    cases hx : cls[n]? with
    | none => rw [hx] at q'; cases q'
    | some x =>
      rw [hx] at q'
      obtain ⟨q1, q2⟩ := and3 q'
      exact ⟨He.ga K x, by rw [hc]; unfold clsG; rw [hx]; rfl, xfB_ok q1, of_decide_eq_true q2⟩
  · have q' := List.all_eq_true.mp e4 _ (lk_mem q)
    dsimp only at q'
    cases hx : cls[n]? with
    | none => rw [hx] at q'; cases q'
    | some x =>
      rw [hx] at q'
      obtain ⟨q1, q2⟩ := and3 q'
      obtain ⟨u, v, nv, q3⟩ := askB_ok X G q2
      exact ⟨He.ga K x, u, v, by rw [hc]; unfold clsG; rw [hx]; rfl, excCB_ok q1, nv, of_decide_eq_true q3⟩
  · have q' := List.all_eq_true.mp e5 _ (lk_mem q)
    dsimp only at q'
    cases hx : cls[n]? with
    | none => rw [hx] at q'; cases q'
    | some x =>
      rw [hx] at q'
      obtain ⟨u, v, nv, q3⟩ := askB_ok X G q'
      exact ⟨He.ga K x, u, v, by rw [hc]; unfold clsG; rw [hx]; rfl, nv, of_decide_eq_true q3⟩
structure HFacts (dfs : List He.DefD) (names frees : List Str) (tf : List He.Defn) (K : PySem.W.Frag) (mg : Str → Option Value) (base : Heap) (g : Gd) (t : Tb) : Prop where
  defs : ∀ (i : Nat) d, dfs[i]? = some d → ∃ fd, FunD K d.name d.qual d.params d.body d.scope (d.dvs K) (d.kws K) (He.fAd K d.at_) fd
  glo : ∀ x ∈ names, mg x = some (.ref (He.ga K x))
  fr : ∀ x ∈ frees, mg x = none
  hd : ∀ p ∈ tf, PySem.W.codeHdIn K (He.cT K p).1 (He.cT K p).2 = true
  tb : ∀ p ∈ tf, LamX.TabB base mg (He.cT K p).1 (He.cT K p).2
  one : tf.length ≤ 1
  gT : g.T = gdT tf K
  hK : K = g.K
  gf : GF g K mg t
section
variable {dfs : List He.DefD} {names frees : List Str} {tf : List He.Defn} {P : Program} {w : World} {K : PySem.W.Frag} {mg : Str → Option Value} {base : Heap} {g : Gd} {t : Tb}
theorem frB {l frees : List Str} (h : (l.all fun b => frees.contains b) = true) : ∀ x, l.contains x = true → x ∈ frees := fun x hx => by
  have h1 := List.all_eq_true.mp h x (by simpa using hx)
  simpa using h1
theorem HFacts.lam (F : HFacts dfs names frees tf K mg base g t) {x : Str} {params : Arguments} {body : List Stmt} {scope : Scope} {fd : FuncData} {k : Nat} (Fu : FunD K x x params body scope [] [] (He.ga K x) fd) (hp : (x, none) ∈ tf) (hk : 1 ≤ k) :
    LamOk g base mg fd.code (x ++ ".<locals>.") k := by
  obtain ⟨oc, od, dV, kV, doc, pm, an, cdv, ct, osl, rfl, lk, hcd, hD, hKw⟩ := Fu.ex
  obtain ⟨c, rfl⟩ := He.codeIn_ref hcd
  have e : He.codeOf K (x, none) = c := He.codeOf_eq (p := (x, none)) lk rfl
  have tb := F.tb _ hp
  have e1 : (He.cT K (x, none)).1 = c := e
  rw [e1] at tb
  have hm : ((He.cT K (x, none)).2, lamQ (x, none)) ∈ g.T := by
    rw [F.gT]
    exact List.mem_map.mpr ⟨_, hp, rfl⟩
  refine ⟨hk, c, (He.cT K (x, none)).2, rfl, tb, hm, fun p hp' _ => ?_⟩
  rw [F.gT] at hp'
  obtain ⟨q, hq, rfl⟩ := List.mem_map.mp hp'
  have : q = (x, none) := by
    match tf, F.one, hp, hq with
    | [a], _, hp, hq => rw [List.mem_singleton.mp hp, List.mem_singleton.mp hq]
  rw [this] <;> rfl
theorem fnD_zero {x : Str} {params : Arguments} {sts : List Stmt} {scope : Scope} {f : Addr} {fd : FuncData} {N ps : List Str} (Fu : FunD K x x params sts scope [] [] f fd) (hmg : mg x = some (.ref f)) (bd : Binds K fd ps []) (S : FnScope N ps scope) (k : Nat) :
    FnD P w K mg base (k + 1) g x ps.length (fun _ _ => .bad) := by
  obtain ⟨oc, od, dV, kV, doc, pm, an, cdv, ct, osl, rfl, lk, hcd, hD, hKw⟩ := Fu.ex
  refine ⟨fun _ _ _ => rfl, f, _, ps, hmg, Fu.kp, bd, rfl, ?_⟩
  refine fn_of (CX := L2.CX P w) (k := k) (sp := spF g ps.length fun _ _ => .bad) lk hcd S (fun vs H Q E ⟨m, h, ds, r, q, hl, p⟩ => p.elim) ?_
  intro A outer s H vs Q E hr ⟨m, h, ds, r, q, hl, p⟩
  exact p.elim
theorem hfacts_of {h : Heap} {ts : List He.Tab} {cls : List Str} (X : K.In h) (G : h.Ns mainGlobals mg) (c : He.SaysX ((names.map He.Fa.glo) ++ (frees.map He.Fa.free)) dfs ts tf (tbB cls t) w h K) (tb : ∀ p ∈ tf, LamX.TabB base mg (He.cT K p).1 (He.cT K p).2) (one : tf.length ≤ 1) (gT : g.T = gdT tf K) (hK : K = g.K) (hc : g.cl = clsG cls K) : HFacts dfs names frees tf K mg base g t where
  defs := fun i d e => c.t.d.def_ i e
  glo := fun x hx => He.glo_ok X G (c.t.d.facts (List.mem_append_left _ (List.mem_map.mpr ⟨x, hx, rfl⟩)))
  fr := fun x hx => He.free_ok X G (c.t.d.facts (List.mem_append_right _ (List.mem_map.mpr ⟨x, hx, rfl⟩)))
  hd := c.hd
  tb := tb
  one := one
  gT := gT
  hK := hK
  gf := gf_of X G hc c.more
/-- the script, as the law gets it -/
inductive ScriptD (ds : List D) : D → Hd → Prop
  | rol : ScriptD ds (.rol ds) []
  | lst : ScriptD ds (.ref 0) [.lst ds]
theorem dvs_ints {K : PySem.W.Frag} {H : Hp} {m : List Addr} : ∀ ns : List Int, DVs K H m (ns.map V.int) (ns.map D.int)
  | [] => .nil
  | n :: ns => .cons (.int n) (dvs_ints ns)
/-- a law's entry -/
theorem law_sp {F : Fn} {n : Nat} {tb : List (Addr × Str)} (hT : g.T = tb) (law : ∀ (ns : List Int) (d : D) (h : Hd), ns.length ≤ n → ScriptD (ns.map D.int) d h → ∃ h', F [d] h = .ok (.bl true) h')
    (H : Hp) (a : Addr) (ns : List Int) (hl : ns.length ≤ n) (ht : ∀ p ∈ tb, H p.1 = some (.tbl #[])) (hS : SqL g.K H a (ns.map V.int)) : spF g 1 F [.ref a] H (fun v _ => v = .bl true) fun _ _ _ => False := by
  have tabs : LamX.Tabs g.T H := fun p hp => .nil (ht p (hT ▸ hp))
  have fin : ∀ (m : List Addr) (d : D) (h : Hd), Rel g H m h → DV g.K H m (.ref a) d → ScriptD (ns.map D.int) d h → spF g 1 F [.ref a] H (fun v _ => v = .bl true) fun _ _ _ => False := fun m d h r q s => by
    obtain ⟨h', e⟩ := law ns d h hl s
    refine ⟨m, h, [d], r, .cons q .nil, rfl, ?_⟩
    rw [e]
    intro v H' m' x r' q'
    cases q' with
    | bl b => rfl
  have r0 : Rel g H [] [] := ⟨rfl, .nil, fun n a o e => by simp at e, tabs⟩
  rcases hS with (e | e) | e
  · refine fin [a] (.ref 0) [.lst (ns.map D.int)] ⟨rfl, by simp, fun i b o e1 e2 => ?_, tabs⟩ (.ref rfl) .lst
    match i, e1, e2 with
    | 0, e1, e2 =>
      cases e1; cases e2
      exact ⟨_, e, dvs_ints ns⟩
  · exact fin [] (.rol (ns.map D.int)) [] r0 (.rol (.inl e) (dvs_ints ns)) .rol
  · exact fin [] (.rol (ns.map D.int)) [] r0 (.rol (.inr e) (dvs_ints ns)) .rol
end
end DL

set_option Elab.async false
set_option linter.all false
set_option maxRecDepth 100000
namespace DL
open PySem PySem.Spec PyProof.Rows L2
def Res.satE {α : Type} (E : Exn → Hd → Prop) (r : Res α) (P : α → Hd → Prop) : Prop := match r with
  | .ok a h => P a h
  | .ex x h => E x h
  | .bad => False
def RS.satE (E : Exn → Sd → Hd → Prop) (r : RS) (P : FL → Hd → Prop) : Prop := match r with
  | .ok f h => P f h
  | .ex x τ h => E x τ h
  | .bad => False
def Res.sat {α : Type} (r : Res α) (P : α → Hd → Prop) : Prop := r.satE (fun _ _ => False) P
def RS.sat (r : RS) (P : FL → Hd → Prop) : Prop := r.satE (fun _ _ _ => False) P
def FL.then (P : FL → Hd → Prop) (k : Sd → Hd → Prop) : FL → Hd → Prop
  | .nx τ, h => k τ h
  | f, h => P f h
section
variable {α β : Type} {P Q : α → Hd → Prop} {r : Res α} {R R' : FL → Hd → Prop} {E E' : Exn → Hd → Prop} {F F' : Exn → Sd → Hd → Prop}
theorem Res.sat_ok {a : α} {h : Hd} : (Res.ok a h).satE E P ↔ P a h := Iff.rfl
theorem Res.sat_ex {x : Exn} {h : Hd} : (Res.ex x h : Res α).satE E P ↔ E x h := Iff.rfl
theorem Res.sat_bad : (Res.bad : Res α).satE E P ↔ False := Iff.rfl
theorem Res.sat_bind {P : β → Hd → Prop} {f : α → Hd → Res β} : (r.bind f).satE E P ↔ r.satE E fun a h => (f a h).satE E P := by cases r <;> exact Iff.rfl
theorem Res.satE.mono (s : r.satE E P) (h : ∀ a h', P a h' → Q a h') (hE : ∀ x h', E x h' → E' x h') : r.satE E' Q := by
  cases r with
  | ok a h' => exact h a h' s
  | ex x h' => exact hE x h' s
  | bad => exact s
theorem Res.satE.imp (s : r.satE E P) (h : ∀ a h', P a h' → Q a h') : r.satE E Q := s.mono h fun _ _ z => z
theorem Res.sat.mono (s : r.sat P) (h : ∀ a h', P a h' → Q a h') : r.sat Q := Res.satE.imp s h
theorem Res.sat.to (s : r.sat P) (h : ∀ a h', P a h' → Q a h') : r.satE E Q := Res.satE.mono s h fun _ _ z => z.elim
theorem Res.sat_st {τ : Sd} {k : α → Hd → RS} : (r.st τ k).satE F R ↔ r.satE (fun x h => F x τ h) fun a h => (k a h).satE F R := by cases r <;> exact Iff.rfl
theorem RS.sat_ok {f : FL} {h : Hd} : (RS.ok f h).satE F R ↔ R f h := Iff.rfl
theorem RS.sat_ex {x : Exn} {τ : Sd} {h : Hd} : (RS.ex x τ h).satE F R ↔ F x τ h := Iff.rfl
theorem RS.sat_bad : RS.bad.satE F R ↔ False := Iff.rfl
theorem RS.sat_seq {s : RS} {k : Fs} : (s.seq k).satE F R ↔ s.satE F (FL.then R fun τ h => (k τ h).satE F R) := by
  cases s with
  | ok f h => cases f <;> exact Iff.rfl
  | _ => exact Iff.rfl
theorem RS.satE.mono {s : RS} (p : s.satE F R) (h : ∀ f h', R f h' → R' f h') (hF : ∀ x τ h', F x τ h' → F' x τ h') : s.satE F' R' := by
  cases s with
  | ok f h' => exact h f h' p
  | ex x τ h' => exact hF x τ h' p
  | bad => exact p
theorem RS.satE.imp {s : RS} (p : s.satE F R) (h : ∀ f h', R f h' → R' f h') : s.satE F R' := p.mono h fun _ _ _ z => z
theorem RS.sat.mono {s : RS} (p : s.sat R) (h : ∀ f h', R f h' → R' f h') : s.sat R' := RS.satE.imp p h
theorem Res.sat_ite {c : Prop} [Decidable c] {a b : Res α} : (if c then a else b).satE E P ↔ if c then a.satE E P else b.satE E P := by split <;> exact Iff.rfl
theorem RS.sat_ite {c : Prop} [Decidable c] {a b : RS} : (if c then a else b).satE F R ↔ if c then a.satE F R else b.satE F R := by split <;> exact Iff.rfl
theorem FL.then_nx {τ : Sd} {h : Hd} {k : Sd → Hd → Prop} : FL.then R k (.nx τ) h ↔ k τ h := Iff.rfl
theorem FL.then_rt {d : D} {h : Hd} {k : Sd → Hd → Prop} : FL.then R k (.rt d) h ↔ R (.rt d) h := Iff.rfl
theorem FL.then_bk {τ : Sd} {h : Hd} {k : Sd → Hd → Prop} : FL.then R k (.bk τ) h ↔ R (.bk τ) h := Iff.rfl
theorem FL.then_ct {τ : Sd} {h : Hd} {k : Sd → Hd → Prop} : FL.then R k (.ct τ) h ↔ R (.ct τ) h := Iff.rfl
/-- what a body's end must give -/
def retW (P : D → Hd → Prop) : FL → Hd → Prop
  | .nx _, h => P .non h
  | .rt d, h => P d h
  | _, _ => False
theorem zbu {P : D → Hd → Prop} {τ : Sd} {h : Hd} : retW P (.nx τ) h ↔ P .non h := Iff.rfl
theorem zbv {P : D → Hd → Prop} {d : D} {h : Hd} : retW P (.rt d) h ↔ P d h := Iff.rfl
theorem runP_satE {C : Tab} {b : ISs} {n p : Nat} {ds : List D} {h : Hd} {P : D → Hd → Prop} (hl : ds.length = p) : (runP C b n p ds h).satE E P ↔ (evSs C b (startD n ds) h).satE (fun x _ h => E x h) (retW P) := by
  unfold runP
  rw [if_pos hl]
  unfold runB
  cases evSs C b (startD n ds) h with
  | ok f h' => cases f <;> exact Iff.rfl
  | _ => exact Iff.rfl
theorem runP_sat {C : Tab} {b : ISs} {n p : Nat} {ds : List D} {h : Hd} {P : D → Hd → Prop} (hl : ds.length = p) : (runP C b n p ds h).sat P ↔ (evSs C b (startD n ds) h).sat (retW P) := runP_satE hl
theorem truR_sat {x : Res D} {P : Bool → Hd → Prop} : (truR x).satE E P ↔ x.satE E fun d h => match truD d h with | some k => P k h | none => False := by
  unfold truR
  rw [Res.sat_bind]
  constructor
  · intro s; refine s.imp fun d h' z => ?_
    cases e : truD d h' <;> (rw [e] at z; exact z)
  · intro s; refine s.imp fun d h' z => ?_
    cases e : truD d h' <;> (rw [e] at z; exact z)
/-- a truth value's own truth -/
def blD (T : Bool → Hd → Prop) : D → Hd → Prop
  | .bl k, h => T k h
  | _, _ => False
theorem bolR_sat {x : Res D} {P : Bool → Hd → Prop} : (bolR x).satE E P ↔ x.satE E (blD P) := by
  unfold bolR
  rw [Res.sat_bind]
  constructor
  · intro s; refine s.imp fun d h' z => ?_
    cases d <;> exact z
  · intro s; refine s.imp fun d h' z => ?_
    cases d <;> exact z
/-- an invariant of a for -/
theorem forL_sat {I : ItD} {t : ITg} {b : Fs} (Inv : Nat → Sd → Hd → Prop) {τ : Sd} {h : Hd} (start : Inv 0 τ h) (gd : ∀ i τ h, i ≤ I.items.length → Inv i τ h → I.guard h)
    (turn : ∀ i τ h d, I.items[i]? = some d → Inv i τ h → ∃ τ1, setTg t d τ = some τ1 ∧ (b τ1 h).satE F fun f h' => match f with | .nx τ' => Inv (i + 1) τ' h' | .ct τ' => Inv (i + 1) τ' h' | .bk τ' => R (.nx τ') h' | .rt d => R (.rt d) h')
    (fin : ∀ τ h, Inv I.items.length τ h → R (.nx τ) h) : (forL I t b I.items τ h).satE F R := by
  have key : ∀ (n i : Nat) τ h, I.items.length - i = n → i ≤ I.items.length → Inv i τ h → (forL I t b (I.items.drop i) τ h).satE F R := by
    intro n
    induction n with
    | zero =>
      intro i τ h e hi hv
      have : i = I.items.length := by omega
      subst this
      rw [List.drop_length]
      unfold forL
      rw [if_pos (gd _ τ h hi hv)]
      exact fin τ h hv
    | succ n ih =>
      intro i τ h e hi hv
      have hlt : i < I.items.length := by omega
      rw [List.drop_eq_getElem_cons hlt]
      unfold forL
      rw [if_pos (gd _ τ h hi hv)]
      obtain ⟨τ1, e1, s⟩ := turn i τ h _ (List.getElem?_eq_getElem hlt) hv
      rw [e1]
      dsimp only
      cases q : b τ1 h with
      | bad => rw [q] at s; exact s.elim
      | ex x τ' h' => rw [q] at s; exact s
      | ok f h' =>
        rw [q] at s
        cases f with
        | nx τ' => exact ih (i + 1) τ' h' (by omega) hlt s
        | ct τ' => exact ih (i + 1) τ' h' (by omega) hlt s
        | bk τ' => exact s
        | rt d => exact s
  exact key _ 0 τ h rfl (Nat.zero_le _) start
/-- an invariant of a while, with a measure -/
theorem whileD_sat {c : Ft} {b : Fs} (Inv : Nat → Sd → Hd → Prop)
    (turn : ∀ n τ h, Inv n τ h → (c τ h).satE (fun x h1 => F x τ h1) fun k h1 => if k = true then (b τ h1).satE F (fun f h' => match f with | .nx τ' => ∃ n', n' < n ∧ Inv n' τ' h' | .ct τ' => ∃ n', n' < n ∧ Inv n' τ' h' | .bk τ' => R (.nx τ') h' | .rt d => R (.rt d) h') else R (.nx τ) h1) :
    ∀ n τ h, Inv n τ h → (whileD c b τ h).satE F R := by
  intro n
  induction n using Nat.strongRecOn with
  | ind n ih =>
    intro τ h hv
    have t := turn n τ h hv
    cases q : c τ h with
    | bad => rw [q] at t; exact t.elim
    | ex x h1 =>
      rw [q] at t
      rw [whileD_of (n := 1) (r := .ex x τ h1) (by unfold whileN; rw [q])]
      exact t
    | ok k h1 =>
      rw [q] at t
      cases k with
      | false => rw [whileD_no q]; exact t
      | true =>
        have t : (b τ h1).satE F _ := t
        have go : ∀ r : RS, (b τ h1).turn (whileD c b) = r → r.satE F R → (whileD c b τ h).satE F R := fun r e s => by
          rw [whileD_go q e (fun z => by rw [z] at s; exact s)]
          exact s
        cases q2 : b τ h1 with
        | bad => rw [q2] at t; exact t.elim
        | ex x τ2 h2 => rw [q2] at t; exact go (.ex x τ2 h2) (by rw [q2]; rfl) t
        | ok f h2 =>
          rw [q2] at t
          cases f with
          | rt d => exact go (.ok (.rt d) h2) (by rw [q2]; rfl) t
          | bk τ2 => exact go (.ok (.nx τ2) h2) (by rw [q2]; rfl) t
          | nx τ2 =>
            obtain ⟨n', hn, hv'⟩ := t
            exact go _ (by rw [q2]; rfl) (ih n' hn τ2 h2 hv')
          | ct τ2 =>
            obtain ⟨n', hn, hv'⟩ := t
            exact go _ (by rw [q2]; rfl) (ih n' hn τ2 h2 hv')
/-- an invariant of a comprehension -/
theorem compL_sat {I : ItD} {t : ITg} {c : Option Ft} {e : Fe} {τ : Sd} {Z : List D → Hd → Prop} (Inv : Nat → List D → Hd → Prop) {h : Hd} (start : Inv 0 [] h) (gd : ∀ i acc h, i ≤ I.items.length → Inv i acc h → I.guard h)
    (turn : ∀ i acc h d, I.items[i]? = some d → Inv i acc h → ∃ τ1, setTg t d τ = some τ1 ∧ (testO c τ1 h).sat fun k h1 => if k = true then (e τ1 h1).sat fun x h2 => Inv (i + 1) (acc ++ [x]) h2 else Inv (i + 1) acc h1)
    (fin : ∀ acc h, Inv I.items.length acc h → Z acc h) : (noEx (compL I t c e τ I.items h)).satE E Z := by
  have key : ∀ (n i : Nat) acc h, I.items.length - i = n → i ≤ I.items.length → Inv i acc h → (compL I t c e τ (I.items.drop i) h).sat fun ds h' => Z (acc ++ ds) h' := by
    intro n
    induction n with
    | zero =>
      intro i acc h e hi hv
      have : i = I.items.length := by omega
      subst this
      rw [List.drop_length]
      unfold compL
      rw [if_pos (gd _ acc h hi hv)]
      show Z (acc ++ []) h
      rw [List.append_nil]
      exact fin acc h hv
    | succ n ih =>
      intro i acc h en hi hv
      have hlt : i < I.items.length := by omega
      rw [List.drop_eq_getElem_cons hlt]
      unfold compL
      rw [if_pos (gd _ acc h hi hv)]
      obtain ⟨τ1, e1, s⟩ := turn i acc h _ (List.getElem?_eq_getElem hlt) hv
      rw [e1]
      dsimp only
      unfold Res.sat
      rw [Res.sat_bind]
      refine Res.satE.imp s fun k h1 z => ?_
      cases k with
      | false => exact ih (i + 1) acc h1 (by omega) hlt z
      | true =>
        rw [if_pos rfl, Res.sat_bind]
        rw [if_pos rfl] at z
        refine Res.satE.imp z fun x h2 z2 => ?_
        rw [Res.sat_bind]
        refine Res.satE.imp (ih (i + 1) _ h2 (by omega) hlt z2) fun ds h3 z3 => ?_
        show Z (acc ++ (x :: ds)) h3
        rw [List.append_assoc] at z3
        exact z3
  have k0 := key _ 0 [] h rfl (Nat.zero_le _) start
  rw [List.drop_zero] at k0
  cases q : compL I t c e τ I.items h with
  | ok ds h' => rw [q] at k0; exact k0
  | _ => rw [q] at k0; exact k0.elim
end
end DL

set_option Elab.async false
set_option linter.all false
set_option maxRecDepth 100000
namespace DL
open PySem PySem.Spec PyProof.Rows L2
abbrev XP := Exn → Hd → Prop
abbrev XS := Exn → Sd → Hd → Prop
section
variable {E : XP} {F : XS} {C : Tab} {τ : Sd} {h : Hd} {P : D → Hd → Prop} {T : Bool → Hd → Prop} {R : FL → Hd → Prop} {S : List D → Hd → Prop} {a b c : IE} {es : IEs}
/-- an expression's value, its truth, several values, a statement, statements; where it raises: E, F -/
@[irreducible] noncomputable def vE {E : XP} (C : Tab) (e : IE) (τ : Sd) (h : Hd) (P : D → Hd → Prop) : Prop := ((evP C e).1 τ h).satE E P
@[irreducible] noncomputable def vT {E : XP} (C : Tab) (e : IE) (τ : Sd) (h : Hd) (P : Bool → Hd → Prop) : Prop := ((evP C e).2 τ h).satE E P
noncomputable def vL {E : XP} (C : Tab) (es : IEs) (τ : Sd) (h : Hd) (P : List D → Hd → Prop) : Prop := (evL (evPs C es) τ h).satE E P
@[irreducible] noncomputable def vS {F : XS} (C : Tab) (s : IS) (τ : Sd) (h : Hd) (P : FL → Hd → Prop) : Prop := (evS C s τ h).satE F P
@[irreducible] noncomputable def vSs {F : XS} (C : Tab) (s : ISs) (τ : Sd) (h : Hd) (P : FL → Hd → Prop) : Prop := (evSs C s τ h).satE F P
noncomputable def vI {E : XP} (C : Tab) (s : IIt) (τ : Sd) (h : Hd) (P : ItD → Hd → Prop) : Prop := (evI C s τ h).satE E P
def vO (o : So) (P : D → Hd → Prop) : Prop := match o with | some p => P p.1 p.2 | none => False
theorem ofO_sat {o : So} : (ofO o).satE E P ↔ vO o P := by
  cases o with
  | none => exact Iff.rfl
  | some p => exact Iff.rfl
noncomputable def vC {E : XP} (F : Fn) (ds : List D) (h : Hd) (P : D → Hd → Prop) : Prop := (F ds h).satE E P
noncomputable def vAndT {E : XP} (C : Tab) (es : IEs) (τ : Sd) (h : Hd) (P : Bool → Hd → Prop) : Prop := (andT (evPs C es) τ h).satE E P
noncomputable def vOrT {E : XP} (C : Tab) (es : IEs) (τ : Sd) (h : Hd) (P : Bool → Hd → Prop) : Prop := (orT (evPs C es) τ h).satE E P
noncomputable def vAnd {E : XP} (C : Tab) (es : IEs) (τ : Sd) (h : Hd) (P : D → Hd → Prop) : Prop := (andV (evPs C es) τ h).satE E P
noncomputable def vOr {E : XP} (C : Tab) (es : IEs) (τ : Sd) (h : Hd) (P : D → Hd → Prop) : Prop := (orV (evPs C es) τ h).satE E P
theorem vE_def : vE (E := E) C a τ h P ↔ ((evP C a).1 τ h).satE E P := by unfold vE; exact Iff.rfl
theorem vC.mono {F : Fn} {ds : List D} {Q : D → Hd → Prop} (s : (F ds h).sat P) (q : ∀ d h', P d h' → Q d h') : vC (E := E) F ds h Q := Res.sat.to s q
theorem vC.monoE {F : Fn} {ds : List D} {Q : D → Hd → Prop} {E' : XP} (s : (F ds h).satE E' P) (q : ∀ d h', P d h' → Q d h') (e : ∀ x h', E' x h' → E x h') : vC (E := E) F ds h Q := Res.satE.mono s q e
theorem zbz {d : D} {h1 : Hd} : vO (some (d, h1)) P ↔ P d h1 := Iff.rfl
theorem vO_none : vO none P ↔ False := Iff.rfl
def varD (o : Option (Option D)) (P : D → Hd → Prop) (h : Hd) : Prop := match o with | some (some d) => P d h | _ => False
theorem varD_congr {o o' : Option (Option D)} (e : o = o') : varD o P h = varD o' P h := by rw [e]
theorem zbh {d : D} : varD (some (some d)) P h ↔ P d h := Iff.rfl
theorem zfp {i : Nat} : vE (E := E) C (.var i) τ h P ↔ varD τ[i]? P h := by
  unfold vE; simp only [evP, mkV]
  cases e : τ[i]? with
  | none => exact Iff.rfl
  | some o => cases o <;> exact Iff.rfl
theorem zfh {i : Int} : vE (E := E) C (.int i) τ h P ↔ P (.int i) h := by unfold vE; simp only [evP, mkV]; exact Iff.rfl
theorem zfn {x : Str} : vE (E := E) C (.str x) τ h P ↔ P (.str x) h := by unfold vE; simp only [evP, mkV]; exact Iff.rfl
theorem zga {x : Bool} : vE (E := E) C (.bl x) τ h P ↔ P (.bl x) h := by unfold vE; simp only [evP, mkV]; exact Iff.rfl
theorem zfl : vE (E := E) C .non τ h P ↔ P .non h := by unfold vE; simp only [evP, mkV]; exact Iff.rfl
theorem zfm {o : O2} : vE (E := E) C (.op2 o a b) τ h P ↔ vE (E := E) C a τ h fun x h1 => vE (E := E) C b τ h1 fun y h2 => vO (semO o x y h2) P := by
  unfold vE; simp only [evP, mkV, Res.sat_bind, ofO_sat]
theorem zff {o : C2} : vE (E := E) C (.cmp o a b) τ h P ↔ vE (E := E) C a τ h fun x h1 => vE (E := E) C b τ h1 fun y h2 => vO (semC o x y h2) P := by
  unfold vE; simp only [evP, mkC, Res.sat_bind, ofO_sat]
theorem zcd {k : Bool} : blD T (.bl k) h ↔ T k h := Iff.rfl
def trD (T : Bool → Hd → Prop) (d : D) (h : Hd) : Prop := match truD d h with | some k => T k h | none => False
theorem trD_of {d : D} {k : Bool} (e : truD d h = some k) : trD T d h ↔ T k h := by unfold trD; rw [e]
theorem zdk {k : Bool} : trD T (.bl k) h ↔ T k h := Iff.rfl
theorem zfa {o : C2} : vT (E := E) C (.cmp o a b) τ h T ↔ vE (E := E) C a τ h fun x h1 => vE (E := E) C b τ h1 fun y h2 => vO (semC o x y h2) (blD T) := by
  unfold vE vT; simp only [evP, mkC, bolR_sat, Res.sat_bind, ofO_sat]
theorem zfk : vE (E := E) C (.neg a) τ h P ↔ vE (E := E) C a τ h fun x h1 => vO (semNeg x h1) P := by unfold vE; simp only [evP, mkV, Res.sat_bind, ofO_sat]
theorem zgc : vE (E := E) C (.nt a) τ h P ↔ vE (E := E) C a τ h (blD fun k h1 => P (.bl !k) h1) := by
  unfold vE; simp only [evP, Res.sat_bind, ofO_sat, bolR_sat, Res.sat_ok]
theorem zfv : vT (E := E) C (.nt a) τ h T ↔ vT (E := E) C a τ h fun k h1 => T (!k) h1 := by unfold vT; simp only [evP, Res.sat_bind, ofO_sat, Res.sat_ok]
theorem zfd : vE (E := E) C (.and es) τ h P ↔ vAnd (E := E) C es τ h P := by unfold vE vAnd; simp only [evP]
theorem zgd : vE (E := E) C (.or es) τ h P ↔ vOr (E := E) C es τ h P := by unfold vE vOr; simp only [evP]
theorem zez : vT (E := E) C (.and es) τ h T ↔ vAndT (E := E) C es τ h T := by unfold vT vAndT; simp only [evP]
theorem zfw : vT (E := E) C (.or es) τ h T ↔ vOrT (E := E) C es τ h T := by unfold vT vOrT; simp only [evP]
theorem zfq : vAnd (E := E) C (.cons a .nil) τ h P ↔ vE (E := E) C a τ h P := by unfold vAnd vE; simp only [evPs, andV]
theorem or1 : vOr (E := E) C (.cons a .nil) τ h P ↔ vE (E := E) C a τ h P := by unfold vOr vE; simp only [evPs, orV]
theorem zdr : vAndT (E := E) C (.cons a .nil) τ h T ↔ vT (E := E) C a τ h T := by unfold vAndT vT; simp only [evPs, andT]
theorem zfs : vOrT (E := E) C (.cons a .nil) τ h T ↔ vT (E := E) C a τ h T := by unfold vOrT vT; simp only [evPs, orT]
theorem and2 : vAnd (E := E) C (.cons a (.cons b es)) τ h P ↔ vE (E := E) C a τ h (blD fun k h1 => if k = true then vAnd (E := E) C (.cons b es) τ h1 P else P (.bl false) h1) := by
  unfold vAnd vE
  simp only [evPs, andV, Res.sat_bind, ofO_sat]
  constructor
  · intro s; refine s.imp fun d h' z => ?_
    cases d with
    | bl k => cases k <;> exact z
    | _ => exact z
  · intro s; refine s.imp fun d h' z => ?_
    cases d with
    | bl k => cases k <;> exact z
    | _ => exact z
theorem or2 : vOr (E := E) C (.cons a (.cons b es)) τ h P ↔ vE (E := E) C a τ h (blD fun k h1 => if k = true then P (.bl true) h1 else vOr (E := E) C (.cons b es) τ h1 P) := by
  unfold vOr vE
  simp only [evPs, orV, Res.sat_bind, ofO_sat]
  constructor
  · intro s; refine s.imp fun d h' z => ?_
    cases d with
    | bl k => cases k <;> exact z
    | _ => exact z
  · intro s; refine s.imp fun d h' z => ?_
    cases d with
    | bl k => cases k <;> exact z
    | _ => exact z
theorem zds : vAndT (E := E) C (.cons a (.cons b es)) τ h T ↔ vT (E := E) C a τ h fun k h1 => if k = true then vAndT (E := E) C (.cons b es) τ h1 T else T false h1 := by
  unfold vAndT vT; simp only [evPs, andT, Res.sat_bind, ofO_sat, Res.sat_ite, Res.sat_ok]
theorem zft : vOrT (E := E) C (.cons a (.cons b es)) τ h T ↔ vT (E := E) C a τ h fun k h1 => if k = true then T true h1 else vOrT (E := E) C (.cons b es) τ h1 T := by
  unfold vOrT vT; simp only [evPs, orT, Res.sat_bind, ofO_sat, Res.sat_ite, Res.sat_ok]
theorem zfg : vE (E := E) C (.ife c a b) τ h P ↔ vT (E := E) C c τ h fun k h1 => if k = true then vE (E := E) C a τ h1 P else vE (E := E) C b τ h1 P := by
  unfold vE vT; simp only [evP, Res.sat_bind, ofO_sat, Res.sat_ite]
theorem zeg : vL (E := E) C .nil τ h S ↔ S [] h := by unfold vL; simp only [evPs, evL]; exact Iff.rfl
theorem zcr : vL (E := E) C (.cons a es) τ h S ↔ vE (E := E) C a τ h fun d h1 => vL (E := E) C es τ h1 fun ds h2 => S (d :: ds) h2 := by
  unfold vL vE; simp only [evPs, evL, Res.sat_bind, ofO_sat, Res.sat_ok]
theorem zfo : vE (E := E) C (.tup es) τ h P ↔ vL (E := E) C es τ h fun ds h1 => ds.length ≤ sizeLine ∧ P (.tup ds) h1 := by
  unfold vL vE
  simp only [evP, mkV, Res.sat_bind, ofO_sat, Res.sat_ite, Res.sat_ok, Res.sat_bad]
  constructor
  · intro s; exact s.imp fun ds h1 z => by split at z <;> first | exact ⟨by assumption, z⟩ | exact z.elim
  · intro s; exact s.imp fun ds h1 z => by rw [if_pos z.1]; exact z.2
theorem zfj : vE (E := E) C (.lst es) τ h P ↔ vL (E := E) C es τ h fun ds h1 => ds.length ≤ sizeLine ∧ P (.ref h1.length) (h1 ++ [.lst ds]) := by
  unfold vL vE
  simp only [evP, mkV, Res.sat_bind, ofO_sat, Res.sat_ite, Res.sat_ok, Res.sat_bad]
  constructor
  · intro s; exact s.imp fun ds h1 z => by split at z <;> first | exact ⟨by assumption, z⟩ | exact z.elim
  · intro s; exact s.imp fun ds h1 z => by rw [if_pos z.1]; exact z.2
theorem zgb : vE (E := E) C (.ix a b) τ h P ↔ vE (E := E) C a τ h fun x h1 => vE (E := E) C b τ h1 fun y h2 => vO (semIx2 x y h2) P := by
  unfold vE; simp only [evP, mkV, Res.sat_bind, ofO_sat]
noncomputable def vOp {E : XP} (C : Tab) (o : IO) (τ : Sd) (h : Hd) (P : Option Int → Hd → Prop) : Prop := (evO C o τ h).satE E P
theorem vOp_congr {o o' : IO} {P : Option Int → Hd → Prop} (h1 : o = o') : vOp (E := E) C o τ h P = vOp (E := E) C o' τ h P := by rw [h1]
theorem zfr {P : Option Int → Hd → Prop} : vOp (E := E) C .no τ h P ↔ P none h := by unfold vOp; simp only [evO]; exact Iff.rfl
def inD1 (P : Option Int → Hd → Prop) : D → Hd → Prop
  | .int i, h => P (some i) h
  | _, _ => False
theorem zbk {P : Option Int → Hd → Prop} {i : Int} : inD1 P (.int i) h ↔ P (some i) h := Iff.rfl
theorem zer {P : Option Int → Hd → Prop} : vOp (E := E) C (.yes a) τ h P ↔ vE (E := E) C a τ h (inD1 P) := by
  unfold vOp vE
  simp only [evO, Res.sat_bind, ofO_sat]
  constructor
  · intro s; exact s.imp fun d h' z => by cases d <;> exact z
  · intro s; exact s.imp fun d h' z => by cases d <;> exact z
theorem zge {lo hi : IO} : vE (E := E) C (.sl a lo hi) τ h P ↔ vE (E := E) C a τ h fun x h1 => vOp (E := E) C lo τ h1 fun l h2 => vOp (E := E) C hi τ h2 fun u h3 => vO (semSl x l u h3) P := by
  unfold vE vOp; simp only [evP, mkV, Res.sat_bind, ofO_sat]
theorem zfz {f : B} : vE (E := E) C (.bc f es) τ h P ↔ vL (E := E) C es τ h fun ds h1 => vO (semB f ds h1) P := by unfold vE vL; simp only [evP, mkV, Res.sat_bind, ofO_sat]
def isD (t : Ty) (P : D → Hd → Prop) (d : D) (h : Hd) : Prop := match tyD h d with | some u => P (.bl (isT u t)) h | none => False
theorem isD_of {t u : Ty} {d : D} (e : tyD h d = some u) : isD t P d h ↔ P (.bl (isT u t)) h := by unfold isD; rw [e]
theorem zfi {t : Ty} : vE (E := E) C (.isi a t) τ h P ↔ vE (E := E) C a τ h (isD t P) := by
  unfold vE
  simp only [evP, mkV, Res.sat_bind, ofO_sat]
  constructor
  · intro s; refine s.imp fun d h' z => ?_
    unfold isD; cases e : tyD h' d <;> (rw [e] at z; exact z)
  · intro s; refine s.imp fun d h' z => ?_
    unfold isD at z; cases e : tyD h' d <;> (rw [e] at z; exact z)
theorem zdm {f : Nat} : vE (E := E) C (.call f es) τ h P ↔ vL (E := E) C es τ h fun ds h1 => vC (E := E) (C f) ds h1 P := by unfold vE vL vC; simp only [evP, mkV, Res.sat_bind, ofO_sat]
theorem zfe {o : IE} : vE (E := E) C (.mth .append o es) τ h P ↔ vE (E := E) C o τ h fun x h1 => isLst h1 x = true ∧ vL (E := E) C es τ h1 fun ds h2 => vO (semM .append x ds h2) P := by
  unfold vE vL
  simp only [evP, mkV, Res.sat_bind, ofO_sat, Res.sat_ite, Res.sat_bad]
  constructor
  · intro s; exact s.imp fun d h1 z => by split at z <;> first | exact ⟨by assumption, z⟩ | exact z.elim
  · intro s; exact s.imp fun d h1 z => by rw [if_pos z.1]; exact z.2
/-- what a comprehension's turns give -/
noncomputable def vCo {E : XP} (C : Tab) (t : ITg) (vs : List Nat) (c : IO) (e : IE) (I : ItD) (τ : Sd) (h : Hd) (P : List D → Hd → Prop) : Prop := (noEx (compL I t (evC C c) (evP C e).1 (wipeD τ vs) I.items h)).satE E P
theorem zdn {t : ITg} {vs : List Nat} {it : IIt} {co : IO} : vE (E := E) C (.comp t vs it co a) τ h P ↔ vI (E := E) C it τ h fun I h1 => vCo (E := E) C t vs co a I τ h1 fun ds h2 => ds.length ≤ sizeLine ∧ P (.ref h2.length) (h2 ++ [.lst ds]) := by
  unfold vE vI vCo
  simp only [evP, mkV, Res.sat_bind, ofO_sat, Res.sat_ite, Res.sat_ok, Res.sat_bad]
  constructor
  · intro s; exact s.imp fun d h1 z => z.imp fun ds h2 z2 => by split at z2 <;> first | exact ⟨by assumption, z2⟩ | exact z2.elim
  · intro s; exact s.imp fun d h1 z => z.imp fun ds h2 z2 => by rw [if_pos z2.1]; exact z2.2
theorem zca {v : Bool} {f : Nat} : vE (E := E) C (.sortk v a f) τ h P ↔ vE (E := E) C a τ h fun x h1 => (sortR v (fun d h => C f [d] h) x h1).satE E P := by unfold vE; simp only [evP, mkV, Res.sat_bind]
theorem zcb : vE (E := E) C (.sortl a b) τ h P ↔ vE (E := E) C a τ h fun x h1 => (sortR false (fun d h => (evP C b).1 [some d] h) x h1).satE E P := by unfold vE; simp only [evP, mkV, Res.sat_bind]
theorem zdp {x : Str} {i : Int} : vE (E := E) C (.gint x i) τ h P ↔ P (.int i) h := by unfold vE; simp only [evP, mkV]; exact Iff.rfl
theorem zdo : vE (E := E) C .dnew τ h P ↔ P (.ref h.length) (h ++ [.dct []]) := by unfold vE; simp only [evP, mkV]; exact Iff.rfl
theorem zfc {i : Nat} : vT (E := E) C (.var i) τ h T ↔ vE (E := E) C (.var i) τ h (trD T) := by
  unfold vT vE; rw [show (evP C (.var i)).2 = fun τ h => truR ((evP C (.var i)).1 τ h) from by simp only [evP, mkV]]; simp only [truR_sat]; exact Iff.rfl
theorem zfu {x : Bool} : vT (E := E) C (.bl x) τ h T ↔ T x h := by unfold vT; simp only [evP, mkV, truR_sat]; exact Iff.rfl
theorem zfb {t : Ty} : vT (E := E) C (.isi a t) τ h T ↔ vE (E := E) C (.isi a t) τ h (trD T) := by
  unfold vT vE; rw [show (evP C (.isi a t)).2 = fun τ h => truR ((evP C (.isi a t)).1 τ h) from by simp only [evP, mkV]]; simp only [truR_sat]; exact Iff.rfl
theorem zdj {f : Nat} : vT (E := E) C (.call f es) τ h T ↔ vE (E := E) C (.call f es) τ h (trD T) := by
  unfold vT vE; rw [show (evP C (.call f es)).2 = fun τ h => truR ((evP C (.call f es)).1 τ h) from by simp only [evP, mkV]]; simp only [truR_sat]; exact Iff.rfl
def itD (o : Option ItD) (P : ItD → Hd → Prop) (h : Hd) : Prop := match o with | some I => P I h | none => False
theorem zbl {I : ItD} {P : ItD → Hd → Prop} : itD (some I) P h ↔ P I h := Iff.rfl
theorem itD_of {o : Option ItD} {I : ItD} {P : ItD → Hd → Prop} (e : o = some I) : itD o P h ↔ P I h := by rw [e]; exact Iff.rfl
theorem ofI_sat {o : Option ItD} {P : ItD → Hd → Prop} : (ofI o h).satE E P ↔ itD o P h := by cases o <;> exact Iff.rfl
theorem zdz {P : ItD → Hd → Prop} : vI (E := E) C (.zip a b) τ h P ↔ vE (E := E) C a τ h fun d h1 => vE (E := E) C b τ h1 fun e h2 => itD (itZip d e h2) P h2 := by unfold vI vE; simp only [evI, Res.sat_bind, ofI_sat]
theorem zdy {P : ItD → Hd → Prop} : vI (E := E) C (.seq a) τ h P ↔ vE (E := E) C a τ h fun d h1 => itD (itSeq d h1) P h1 := by unfold vI vE; simp only [evI, Res.sat_bind, ofO_sat, ofI_sat]
theorem zcf {P : ItD → Hd → Prop} : vI (E := E) C (.enum a) τ h P ↔ vE (E := E) C a τ h fun d h1 => itD (itEnum d h1) P h1 := by unfold vI vE; simp only [evI, Res.sat_bind, ofO_sat, ofI_sat]
def rngD (P : ItD → Hd → Prop) : D → Hd → Prop
  | .int j, h => itD (itRng 0 j) P h
  | _, _ => False
theorem rngD_int {P : ItD → Hd → Prop} {j : Int} (h1 : -(2 ^ 62) ≤ j) (h2 : j < 2 ^ 62) : rngD P (.int j) h ↔ P ⟨(List.range j.toNat).map fun (i : Nat) => .int (i : Int), []⟩ h := by
  show itD (itRng 0 j) P h ↔ _
  unfold itRng
  rw [if_pos ⟨by decide, by decide, h1, h2⟩]
  simp only [Int.sub_zero, Int.zero_add]
  exact Iff.rfl
theorem i_rng1' {P : ItD → Hd → Prop} : vI (E := E) C (.rng1 a) τ h P ↔ vE (E := E) C a τ h (rngD P) := by
  unfold vI vE
  simp only [evI, Res.sat_bind, ofO_sat]
  constructor
  · intro s; exact s.imp fun d h1 z => by
      cases d with
      | int j => exact ofI_sat.mp z
      | _ => exact z
  · intro s; exact s.imp fun d h1 z => by
      cases d with
      | int j => exact ofI_sat.mpr z
      | _ => exact z
@[irreducible] def rngW (P : ItD → Hd → Prop) (d : D) (h : Hd) : Prop := rngD P d h
theorem zcg {P : ItD → Hd → Prop} : vI (E := E) C (.rng1 a) τ h P ↔ vE (E := E) C a τ h (rngW P) := by
  rw [i_rng1', show rngW P = rngD P from by unfold rngW; rfl]
theorem rngD_i {P : ItD → Hd → Prop} {i : Int} (h0 : 0 ≤ i) (hn : i ≤ 1000000) (q : P ⟨(List.range i.toNat).map fun (i : Nat) => .int (i : Int), []⟩ h) : rngW P (.int i) h := by
  unfold rngW
  exact (rngD_int (Int.le_trans (by decide) h0) (Int.lt_of_le_of_lt hn (by decide))).mpr q
theorem rngD_nat {P : ItD → Hd → Prop} {n : Nat} (hn : (n : Int) ≤ 1000000) (q : P ⟨(List.range n).map fun (i : Nat) => .int (i : Int), []⟩ h) : rngW P (.int (n : Int)) h :=
  rngD_i (Int.natCast_nonneg n) hn (by rw [Int.toNat_natCast]; exact q)
def rng2D (P : ItD → Hd → Prop) (d e : D) (h : Hd) : Prop := match d, e with | .int i, .int j => itD (itRng i j) P h | _, _ => False
@[irreducible] def rng2W (P : ItD → Hd → Prop) (d e : D) (h : Hd) : Prop := rng2D P d e h
theorem zch {P : ItD → Hd → Prop} : vI (E := E) C (.rng2 a b) τ h P ↔ vE (E := E) C a τ h fun d h1 => vE (E := E) C b τ h1 fun e h2 => rng2W P d e h2 := by
  rw [show rng2W P = rng2D P from by unfold rng2W; rfl]
  unfold vI vE
  simp only [evI, Res.sat_bind]
  constructor
  · intro s; exact s.imp fun d h1 z => z.imp fun e h2 z => by
      cases d <;> cases e <;> first | exact ofI_sat.mp z | exact z
  · intro s; exact s.imp fun d h1 z => z.imp fun e h2 z => by
      cases d <;> cases e <;> first | exact ofI_sat.mpr z | exact z
theorem rng2_i {P : ItD → Hd → Prop} {i j : Int} (h0 : -1000000000000000000 ≤ i) (h1 : i ≤ 1000000000000000000) (h2 : -1000000000000000000 ≤ j) (h3 : j ≤ 1000000000000000000) (q : P ⟨(List.range (j - i).toNat).map fun (k : Nat) => .int (i + (k : Int)), []⟩ h) : rng2W P (.int i) (.int j) h := by
  unfold rng2W
  show itD (itRng i j) P h
  unfold itRng
  rw [if_pos ⟨Int.le_trans (by decide) h0, Int.lt_of_le_of_lt h1 (by decide), Int.le_trans (by decide) h2, Int.lt_of_le_of_lt h3 (by decide)⟩]
  exact q
theorem zdg : vSs (F := F) C .nil τ h R ↔ R (.nx τ) h := by unfold vSs; simp only [evSs]; exact Iff.rfl
theorem zbx {s : IS} {ss : ISs} : vSs (F := F) C (.cons s ss) τ h R ↔ vS (F := F) C s τ h (FL.then R fun τ' h' => vSs (F := F) C ss τ' h' R) := by unfold vSs vS; simp only [evSs, RS.sat_seq]
/-- what stands behind a statement, not looked at -/
@[irreducible] noncomputable def nxK {F : XS} (C : Tab) (ss : ISs) (R : FL → Hd → Prop) : FL → Hd → Prop := FL.then R fun τ' h' => vSs (F := F) C ss τ' h' R
theorem zdh {s : IS} {ss : ISs} : vSs (F := F) C (.cons s ss) τ h R ↔ vS (F := F) C s τ h (nxK (F := F) C ss R) := by
  rw [zbx]
  unfold nxK
  exact Iff.rfl
theorem nx_nx {ss : ISs} : nxK (F := F) C ss R (.nx τ) h ↔ vSs (F := F) C ss τ h R := by unfold nxK; exact Iff.rfl
theorem zcw {f : FL} : nxK (F := F) C .nil R f h ↔ R f h := by
  unfold nxK
  cases f with
  | nx τ => exact zdg
  | _ => exact Iff.rfl
theorem zeq {ss : ISs} {d : D} : nxK (F := F) C ss R (.rt d) h ↔ R (.rt d) h := by unfold nxK; exact Iff.rfl
theorem zeo {ss : ISs} : nxK (F := F) C ss R (.bk τ) h ↔ R (.bk τ) h := by unfold nxK; exact Iff.rfl
theorem zep {ss : ISs} : nxK (F := F) C ss R (.ct τ) h ↔ R (.ct τ) h := by unfold nxK; exact Iff.rfl
theorem zcz : vS (F := F) C (.expr a) τ h R ↔ vE (E := fun x h => F x τ h) C a τ h fun _ h1 => R (.nx τ) h1 := by unfold vS vE; simp only [evS, Res.sat_st]; exact Iff.rfl
theorem zew : vS (F := F) C (.ret a) τ h R ↔ vE (E := fun x h => F x τ h) C a τ h fun d h1 => R (.rt d) h1 := by unfold vS vE; simp only [evS, Res.sat_st]; exact Iff.rfl
theorem zdc : vS (F := F) C .retN τ h R ↔ R (.rt .non) h := by unfold vS; simp only [evS]; exact Iff.rfl
theorem zex {i : Nat} : vS (F := F) C (.set i a) τ h R ↔ vE (E := fun x h => F x τ h) C a τ h fun d h1 => R (.nx (τ.set i (some d))) h1 := by unfold vS vE; simp only [evS, Res.sat_st]; exact Iff.rfl
theorem zdd {i : Nat} {t : ITg} {vs : List Nat} {it : IIt} {co : IO} : vS (F := F) C (.setc i t vs it co a) τ h R ↔ vE (E := fun x h => F x τ h) C (.comp t vs it co a) τ h fun d h1 => R (.nx (τ.set i (some d))) h1 := by unfold vS vE; simp only [evS, Res.sat_st]; exact Iff.rfl
def setW (o : Option Hd) (Q : Hd → Prop) : Prop := match o with | some k => Q k | none => False
theorem setW_congr {o o' : Option Hd} {Q : Hd → Prop} (e : o = o') : setW o Q = setW o' Q := by rw [e]
theorem zbg {k : Hd} {Q : Hd → Prop} : setW (some k) Q ↔ Q k := Iff.rfl
theorem zbw {o i e : IE} : vS (F := F) C (.setix o i e) τ h R ↔ vE (E := fun x h => F x τ h) C e τ h fun d h1 => vE (E := fun x h => F x τ h) C o τ h1 fun x h2 => vE (E := fun x h => F x τ h) C i τ h2 fun y h3 => setW (setD2 x y d h3) fun h4 => R (.nx τ) h4 := by
  unfold vS vE
  simp only [evS, Res.sat_st]
  constructor
  · intro s; exact s.imp fun d h1 z => z.imp fun x h2 z => z.imp fun y h3 z => by
      cases e : setD2 x y d h3 with
      | none => rw [e] at z; exact z.elim
      | some h4 => rw [e] at z; exact z
  · intro s; exact s.imp fun d h1 z => z.imp fun x h2 z => z.imp fun y h3 z => by
      cases e : setD2 x y d h3 with
      | none => rw [e] at z; exact z.elim
      | some h4 => rw [e] at z; exact z
theorem zev {p q : ISs} : vS (F := F) C (.iff c p q) τ h R ↔ vT (E := fun x h => F x τ h) C c τ h fun k h1 => if k = true then vSs (F := F) C p τ h1 R else vSs (F := F) C q τ h1 R := by unfold vS vT vSs; simp only [evS, Res.sat_st, RS.sat_ite]
theorem zeu {t : ITg} {it : IIt} {p : ISs} : vS (F := F) C (.forin t it p) τ h R ↔ vI (E := fun x h => F x τ h) C it τ h fun I h1 => (forL I t (evSs C p) I.items τ h1).satE F R := by unfold vS vI; simp only [evS, Res.sat_st]
theorem s_whil {p : ISs} : vS (F := F) C (.whil c p) τ h R ↔ (whileD (evP C c).2 (evSs C p) τ h).satE F R := by unfold vS; simp only [evS]
theorem zdb {n : Nat} : vS (F := F) C (.rais n) τ h R ↔ F ⟨n, []⟩ τ h := by unfold vS; simp only [evS]; exact Iff.rfl
/-- what the clauses must give -/
def hdW (hs : List HD) (F : XS) (R : FL → Hd → Prop) : XS := fun x τ h => (evH x τ h hs).satE F R
theorem zde {p : ISs} {hs : List HD} : vS (F := F) C (.tryx p hs) τ h R ↔ vSs (F := hdW hs F R) C p τ h R := by
  unfold vS vSs
  simp only [evS]
  cases evSs C p τ h <;> exact Iff.rfl
theorem hd_nil {x : Exn} : hdW [] F R x τ h ↔ F x τ h := Iff.rfl
theorem hd_no {x : Exn} {d : HD} {r : List HD} (e : d.ans.lookup x.cls = some false) : hdW (d :: r) F R x τ h ↔ hdW r F R x τ h := by
  unfold hdW
  rw [evH, e]
theorem hd_ret {x : Exn} {d : HD} {r : List HD} {v : D} (e : d.ans.lookup x.cls = some true) (e2 : evU x d.su = some (some v)) : hdW (d :: r) F R x τ h ↔ R (.rt v) h := by
  unfold hdW
  rw [evH, e]
  simp only [e2]
  exact Iff.rfl
theorem hd_pas {x : Exn} {d : HD} {r : List HD} (e : d.ans.lookup x.cls = some true) (e2 : evU x d.su = some none) : hdW (d :: r) F R x τ h ↔ R (.nx (wipeO τ d.slot)) h := by
  unfold hdW
  rw [evH, e]
  simp only [e2]
  exact Iff.rfl
def tgD (t : ITg) (τ : Sd) (P : Sd → Hd → Prop) (d : D) (h : Hd) : Prop := match setTg t d τ with | some τ' => P τ' h | none => False
theorem tg_of {t : ITg} {d : D} {τ' : Sd} {P : Sd → Hd → Prop} (e : setTg t d τ = some τ') : tgD t τ P d h ↔ P τ' h := by unfold tgD; rw [e]
theorem zfx {i j : Nat} {a b : D} {P : Sd → Hd → Prop} : tgD (.tup [i, j]) τ P (.tup [a, b]) h ↔ P ((τ.set i (some a)).set j (some b)) h := Iff.rfl
theorem zfy {i j k : Nat} {a b c : D} {P : Sd → Hd → Prop} : tgD (.tup [i, j, k]) τ P (.tup [a, b, c]) h ↔ P (((τ.set i (some a)).set j (some b)).set k (some c)) h := Iff.rfl
theorem zey {is : List Nat} : vS (F := F) C (.unp is a) τ h R ↔ vE (E := fun x h => F x τ h) C a τ h (tgD (.tup is) τ fun τ' h1 => R (.nx τ') h1) := by
  unfold vS vE
  simp only [evS, Res.sat_st]
  constructor
  · intro s; exact s.imp fun d h1 z => by
      unfold tgD
      cases e : setTg (.tup is) d τ with
      | none => rw [e] at z; exact z.elim
      | some τ' => rw [e] at z; exact z
  · intro s; exact s.imp fun d h1 z => by
      unfold tgD at z
      cases e : setTg (.tup is) d τ with
      | none => rw [e] at z; exact z.elim
      | some τ' => rw [e] at z; exact z
def varW (o : Option (Option D)) (P : D → Prop) : Prop := match o with | some (some d) => P d | _ => False
theorem zbi {d : D} {P : D → Prop} : varW (some (some d)) P ↔ P d := Iff.rfl
theorem zes {i : Nat} {o : O2} : vS (F := F) C (.aug i o a) τ h R ↔ varW τ[i]? fun x => vE (E := fun x h => F x τ h) C a τ h fun d h1 => vO (semIp o x d h1) fun z h2 => R (.nx (τ.set i (some z))) h2 := by
  unfold vS vE
  simp only [evS]
  cases e : τ[i]? with
  | none => exact Iff.rfl
  | some w =>
    cases w with
    | none => exact Iff.rfl
    | some x =>
      simp only [Res.sat_st, zbi]
      constructor
      · intro s; exact s.imp fun d h1 z => by
          cases e : semIp o x d h1 with
          | none => rw [e] at z; exact z.elim
          | some p => obtain ⟨z1, h2⟩ := p; rw [e] at z; exact z
      · intro s; exact s.imp fun d h1 z => by
          cases e : semIp o x d h1 with
          | none => rw [e] at z; exact z.elim
          | some p => obtain ⟨z1, h2⟩ := p; rw [e] at z; exact z
theorem zci {i j : Int} : vO (semIp .add (.int i) (.int j) h) P ↔ P (.int (i + j)) h := Iff.rfl
theorem zcj {i j : Int} : vO (semIp .sub (.int i) (.int j) h) P ↔ P (.int (i - j)) h := Iff.rfl
theorem zet : vS (F := F) C .brk τ h R ↔ R (.bk τ) h := by unfold vS; simp only [evS]; exact Iff.rfl
theorem zcy : vS (F := F) C .cont τ h R ↔ R (.ct τ) h := by unfold vS; simp only [evS]; exact Iff.rfl
theorem zda : vS (F := F) C .pass τ h R ↔ R (.nx τ) h := by unfold vS; simp only [evS]; exact Iff.rfl
theorem runP_v {n p : Nat} {ds : List D} {body : ISs} {σ : Sd} (hl : ds.length = p) (hs : startD n ds = σ) (s : vSs (F := fun _ _ _ => False) C body σ h (retW P)) : (runP C body n p ds h).sat P := by
  unfold vSs at s
  exact (runP_sat hl).mpr (hs ▸ s)
theorem runP_vE {n p : Nat} {ds : List D} {body : ISs} {σ : Sd} (hl : ds.length = p) (hs : startD n ds = σ) (s : vSs (F := fun x _ h => E x h) C body σ h (retW P)) : (runP C body n p ds h).satE E P := by
  unfold vSs at s
  exact (runP_satE hl).mpr (hs ▸ s)
theorem set_at {n : Nat} {o o' : OD} (e : h[n]? = some o') : (h.set n o)[n]? = some o := by
  rw [List.getElem?_set_self (List.getElem?_eq_some_iff.mp e).1]
theorem app_at {n : Nat} {o : OD} {k : Hd} (e : h[n]? = some o) : (h ++ k)[n]? = some o := by rw [List.getElem?_append_left (List.getElem?_eq_some_iff.mp e).1]; exact e
theorem app_new {o : OD} : (h ++ [o])[h.length]? = some o := by simp
theorem ix_ref {n : Nat} {ds : List D} {i : Int} {d : D} (e : h[n]? = some (.lst ds)) (e2 : atI ds i = some d) : vO (semIx2 (.ref n) (.int i) h) P ↔ P d h := by
  have : semIx2 (.ref n) (.int i) h = some (d, h) := by simp only [semIx2, semIx, seqOf, e, e2, Option.map_some]
  rw [this]; exact Iff.rfl
theorem ix_tup {ds : List D} {i : Int} {d : D} (e2 : atI ds i = some d) : vO (semIx2 (.tup ds) (.int i) h) P ↔ P d h := by
  have : semIx2 (.tup ds) (.int i) h = some (d, h) := by simp only [semIx2, semIx, seqOf, e2, Option.map_some]
  rw [this]; exact Iff.rfl
theorem ix_dk {n : Nat} {kvs : List (D × D)} {k d : D} {q : Key} (e : h[n]? = some (.dct kvs)) (e1 : keyS k = some q) (e2 : dget kvs k = some d) : vO (semIx2 (.ref n) k h) P ↔ P d h := by
  have : semIx2 (.ref n) k h = some (d, h) := by simp only [semIx2, e, e1, e2, Option.map_some]
  rw [this]; exact Iff.rfl
theorem setD_dk {n : Nat} {kvs : List (D × D)} {k d : D} {q : Key} (e : h[n]? = some (.dct kvs)) (e1 : keyS k = some q) (e2 : kvs.length < sizeLine) : setD2 (.ref n) k d h = some (h.set n (.dct (dput kvs k d))) := by
  simp only [setD2, e, e1]
  rw [if_pos e2]
theorem setD_ref {n : Nat} {ds : List D} {i : Int} {j : Nat} {d : D} (e : h[n]? = some (.lst ds)) (e2 : ixN ds.length i = some j) : setD2 (.ref n) (.int i) d h = some (h.set n (.lst (ds.set j d))) := by
  simp only [setD2, e, e2, Option.map_some]
theorem len_ref {n : Nat} {ds : List D} (e : h[n]? = some (.lst ds)) : vO (semB .len [.ref n] h) P ↔ P (.int ds.length) h := by
  have : semB .len [.ref n] h = some (.int ds.length, h) := by simp only [semB, on1, lenD, seqOf, e, Option.map_some]
  rw [this]; exact Iff.rfl
theorem zbt {ds : List D} : vO (semB .len [.tup ds] h) P ↔ P (.int ds.length) h := Iff.rfl
theorem zcc {i j : Int} : vO (semO .add (.int i) (.int j) h) P ↔ P (.int (i + j)) h := Iff.rfl
theorem zdi {i j : Int} : vO (semO .sub (.int i) (.int j) h) P ↔ P (.int (i - j)) h := Iff.rfl
theorem zcv {i j : Int} (e : -(2 ^ 64) < j ∧ j < 2 ^ 64) : vO (semO .mul (.int i) (.int j) h) P ↔ P (.int (i * j)) h := by
  have : semO .mul (.int i) (.int j) h = some (.int (i * j), h) := by simp only [semO, semMul]; rw [if_pos (.inr e)]
  rw [this]; exact Iff.rfl
theorem zce {i j : Int} (e : 0 < j) (e2 : j.natAbs.log2 < 9000) : vO (semO .div (.int i) (.int j) h) P ↔ P (.int (i / j)) h := by
  have : semO .div (.int i) (.int j) h = some (.int (i / j), h) := by simp only [semO, semDiv]; rw [if_pos ⟨e, e2⟩]
  rw [this]; exact Iff.rfl
theorem zcu {i j : Int} (e : 0 < j) : vO (semO .mod (.int i) (.int j) h) P ↔ P (.int (i % j)) h := by
  have : semO .mod (.int i) (.int j) h = some (.int (i % j), h) := by simp only [semO, semMod]; rw [if_pos e]
  rw [this]; exact Iff.rfl
theorem zcx {i j : Int} (e : 0 ≤ j ∧ j ≤ 1000000 ∧ i.natAbs < 2 ^ 64) : vO (semO .pow (.int i) (.int j) h) P ↔ P (.int (i ^ j.toNat)) h := by
  have : semO .pow (.int i) (.int j) h = some (.int (i ^ j.toNat), h) := by simp only [semO, semPow]; rw [if_pos e]
  rw [this]; exact Iff.rfl
theorem zei {i j : Int} : vO (semC .lt (.int i) (.int j) h) P ↔ P (.bl (decide (i < j))) h := Iff.rfl
theorem zeh {i j : Int} : vO (semC .le (.int i) (.int j) h) P ↔ P (.bl (decide (i ≤ j))) h := Iff.rfl
theorem zdx {i j : Int} : vO (semC .gt (.int i) (.int j) h) P ↔ P (.bl (decide (j < i))) h := Iff.rfl
theorem zdw {i j : Int} : vO (semC .ge (.int i) (.int j) h) P ↔ P (.bl (decide (j ≤ i))) h := Iff.rfl
theorem eqv_ii {i j : Int} : PyData.eqv (.int i) (.int j) = decide (i = j) := by
  simp [PyData.eqv]
  rfl
theorem zdu {i j : Int} : vO (semC .eq (.int i) (.int j) h) P ↔ P (.bl (decide (i = j))) h := by
  have : semC .eq (.int i) (.int j) h = some (.bl (decide (i = j)), h) := by
    have z : eqD (.int i) (.int j) = some (decide (i = j)) := by
      unfold eqD
      rw [if_pos ⟨rfl, rfl, Nat.zero_le _⟩]
      exact congrArg some eqv_ii
    simp only [semC, semEq, z, Option.map_some]; rfl
  rw [this]; exact Iff.rfl
theorem zdq {i : Int} : vO (semB .abs [.int i] h) P ↔ P (.int (if i < 0 then -i else i)) h := Iff.rfl
theorem zea {i : Int} : vO (semB .int [.int i] h) P ↔ P (.int i) h := Iff.rfl
theorem zcs {i j : Int} : vO (semB .max2 [.int i, .int j] h) P ↔ P (.int (if j > i then j else i)) h := Iff.rfl
theorem zct {i j : Int} : vO (semB .min2 [.int i, .int j] h) P ↔ P (.int (if j < i then j else i)) h := Iff.rfl
theorem zen {i : Int} : vO (semNeg (.int i) h) P ↔ P (.int (-i)) h := Iff.rfl
theorem atI_1 {a b : D} {l : List D} : atI (a :: b :: l) 1 = some b := atI_nat (j := 1) rfl
theorem atI_2 {a b c : D} {l : List D} : atI (a :: b :: c :: l) 2 = some c := atI_nat (j := 2) rfl
theorem atI_3 {a b c d : D} {l : List D} : atI (a :: b :: c :: d :: l) 3 = some d := atI_nat (j := 3) rfl
theorem setD4_1 {n : Nat} {a b c d x : D} (e : h[n]? = some (.lst [a, b, c, d])) : setD2 (.ref n) (.int 1) x h = some (h.set n (.lst [a, x, c, d])) := setD_ref (j := 1) e rfl
theorem setD4_2 {n : Nat} {a b c d x : D} (e : h[n]? = some (.lst [a, b, c, d])) : setD2 (.ref n) (.int 2) x h = some (h.set n (.lst [a, b, x, d])) := setD_ref (j := 2) e rfl
theorem setD4_3 {n : Nat} {a b c d x : D} (e : h[n]? = some (.lst [a, b, c, d])) : setD2 (.ref n) (.int 3) x h = some (h.set n (.lst [a, b, c, x])) := setD_ref (j := 3) e rfl
theorem atI_0 {a : D} {l : List D} : atI (a :: l) 0 = some a := atI_nat (j := 0) rfl
end
section
variable {E : XP} {F : XS} {C : Tab} {τ : Sd} {h : Hd} {t : ITg} {vs : List Nat} {e c : IE} {I : ItD} {Z : List D → Hd → Prop} {R : FL → Hd → Prop} {p : ISs}
theorem vCo_no (Inv : Nat → List D → Hd → Prop) (start : Inv 0 [] h) (gd : ∀ i acc h, i ≤ I.items.length → Inv i acc h → I.guard h)
    (turn : ∀ i acc h d, I.items[i]? = some d → Inv i acc h → ∃ τ1, setTg t d (wipeD τ vs) = some τ1 ∧ vE (E := fun _ _ => False) C e τ1 h fun x h2 => Inv (i + 1) (acc ++ [x]) h2)
    (fin : ∀ acc h, Inv I.items.length acc h → Z acc h) : vCo (E := E) C t vs .no e I τ h Z := by
  unfold vCo
  refine compL_sat Inv start gd (fun i acc h d hd hv => ?_) fin
  obtain ⟨τ1, e1, s⟩ := turn i acc h d hd hv
  refine ⟨τ1, e1, ?_⟩
  simp only [evC]
  unfold vE at s
  exact s
theorem vCo_yes (Inv : Nat → List D → Hd → Prop) (start : Inv 0 [] h) (gd : ∀ i acc h, i ≤ I.items.length → Inv i acc h → I.guard h)
    (turn : ∀ i acc h d, I.items[i]? = some d → Inv i acc h → ∃ τ1, setTg t d (wipeD τ vs) = some τ1 ∧ vT (E := fun _ _ => False) C c τ1 h fun k h1 => if k = true then vE (E := fun _ _ => False) C e τ1 h1 fun x h2 => Inv (i + 1) (acc ++ [x]) h2 else Inv (i + 1) acc h1)
    (fin : ∀ acc h, Inv I.items.length acc h → Z acc h) : vCo (E := E) C t vs (.yes c) e I τ h Z := by
  unfold vCo
  refine compL_sat Inv start gd (fun i acc h d hd hv => ?_) fin
  obtain ⟨τ1, e1, s⟩ := turn i acc h d hd hv
  refine ⟨τ1, e1, ?_⟩
  simp only [evC]
  unfold vE vT at s
  exact s
theorem while_sat (Inv : Nat → Sd → Hd → Prop) {n : Nat} (start : Inv n τ h)
    (turn : ∀ n τ h, Inv n τ h → vT (E := fun x h => F x τ h) C c τ h fun k h1 => if k = true then vSs (F := F) C p τ h1 (fun f h' => match f with | .nx τ' => ∃ n', n' < n ∧ Inv n' τ' h' | .ct τ' => ∃ n', n' < n ∧ Inv n' τ' h' | .bk τ' => R (.nx τ') h' | .rt d => R (.rt d) h') else R (.nx τ) h1) :
    (whileD (evP C c).2 (evSs C p) τ h).satE F R := whileD_sat Inv (fun n τ h hv => by
    have z := turn n τ h hv
    unfold vT vSs at z
    exact z) n τ h start
theorem ss_mid {s : IS} {ss : ISs} (M : Sd → Hd → Prop) (a : vS (F := F) C s τ h (FL.then R M)) (b : ∀ τ' h', M τ' h' → vSs (F := F) C ss τ' h' R) : vSs (F := F) C (.cons s ss) τ h R := by
  unfold vS at a
  refine zbx.mpr ?_
  unfold vS
  refine RS.satE.imp a fun f h' z => ?_
  cases f with
  | nx τ' => exact b τ' h' z
  | _ => exact z
/-- a for, its body by vSs -/
theorem for_sat (Inv : Nat → Sd → Hd → Prop) (start : Inv 0 τ h) (gd : ∀ i τ h, i ≤ I.items.length → Inv i τ h → I.guard h)
    (turn : ∀ i τ h d, I.items[i]? = some d → Inv i τ h → ∃ τ1, setTg t d τ = some τ1 ∧ vSs (F := F) C p τ1 h fun f h' => match f with | .nx τ' => Inv (i + 1) τ' h' | .ct τ' => Inv (i + 1) τ' h' | .bk τ' => R (.nx τ') h' | .rt d => R (.rt d) h')
    (fin : ∀ τ h, Inv I.items.length τ h → R (.nx τ) h) : (forL I t (evSs C p) I.items τ h).satE F R := forL_sat Inv start gd (fun i τ h d hd hv => by
    have z := turn i τ h d hd hv
    unfold vSs at z
    exact z) fin
end
end DL

set_option Elab.async false
set_option linter.all false
set_option maxRecDepth 100000
set_option maxHeartbeats 1000000
namespace DL
open PySem PySem.Spec PyProof.Rows L2
section
variable {h : Hd} {P : D → Hd → Prop} {t : Ty}
theorem zal  : isD .tup P .non h ↔ P (.bl false) h := Iff.rfl
theorem zak  : isD .str P .non h ↔ P (.bl false) h := Iff.rfl
theorem zai  : isD .int P .non h ↔ P (.bl false) h := Iff.rfl
theorem zba  : isD .bl P .non h ↔ P (.bl false) h := Iff.rfl
theorem zaj  : isD .lst P .non h ↔ P (.bl false) h := Iff.rfl
theorem zax {b : Bool} : isD .tup P (.bl b) h ↔ P (.bl false) h := Iff.rfl
theorem zaw {b : Bool} : isD .str P (.bl b) h ↔ P (.bl false) h := Iff.rfl
theorem zau {b : Bool} : isD .int P (.bl b) h ↔ P (.bl true) h := Iff.rfl
theorem zbe {b : Bool} : isD .bl P (.bl b) h ↔ P (.bl true) h := Iff.rfl
theorem zav {b : Bool} : isD .lst P (.bl b) h ↔ P (.bl false) h := Iff.rfl
theorem zad {i : Int} : isD .tup P (.int i) h ↔ P (.bl false) h := Iff.rfl
theorem zac {i : Int} : isD .str P (.int i) h ↔ P (.bl false) h := Iff.rfl
theorem zaa {i : Int} : isD .int P (.int i) h ↔ P (.bl true) h := Iff.rfl
theorem zay {i : Int} : isD .bl P (.int i) h ↔ P (.bl false) h := Iff.rfl
theorem zab {i : Int} : isD .lst P (.int i) h ↔ P (.bl false) h := Iff.rfl
theorem zap {x : Str} : isD .tup P (.str x) h ↔ P (.bl false) h := Iff.rfl
theorem zao {x : Str} : isD .str P (.str x) h ↔ P (.bl true) h := Iff.rfl
theorem zam {x : Str} : isD .int P (.str x) h ↔ P (.bl false) h := Iff.rfl
theorem zbb {x : Str} : isD .bl P (.str x) h ↔ P (.bl false) h := Iff.rfl
theorem zan {x : Str} : isD .lst P (.str x) h ↔ P (.bl false) h := Iff.rfl
theorem zat {ds : List D} : isD .tup P (.tup ds) h ↔ P (.bl true) h := Iff.rfl
theorem zas {ds : List D} : isD .str P (.tup ds) h ↔ P (.bl false) h := Iff.rfl
theorem zaq {ds : List D} : isD .int P (.tup ds) h ↔ P (.bl false) h := Iff.rfl
theorem zbc {ds : List D} : isD .bl P (.tup ds) h ↔ P (.bl false) h := Iff.rfl
theorem zar {ds : List D} : isD .lst P (.tup ds) h ↔ P (.bl false) h := Iff.rfl
theorem zah {ds : List D} : isD .tup P (.rol ds) h ↔ P (.bl false) h := Iff.rfl
theorem zag {ds : List D} : isD .str P (.rol ds) h ↔ P (.bl false) h := Iff.rfl
theorem zae {ds : List D} : isD .int P (.rol ds) h ↔ P (.bl false) h := Iff.rfl
theorem zaz {ds : List D} : isD .bl P (.rol ds) h ↔ P (.bl false) h := Iff.rfl
theorem zaf {ds : List D} : isD .lst P (.rol ds) h ↔ P (.bl true) h := Iff.rfl

theorem isD_ref {n : Nat} {ds : List D} (e : h[n]? = some (.lst ds)) : isD t P (.ref n) h ↔ P (.bl (isT .lst t)) h := isD_of (by simp only [tyD, e])
theorem zcl : vO (semC .is .non .non h) P ↔ P (.bl true) h := Iff.rfl
theorem zeb {i : Bool} : vO (semC .is (.bl i) .non h) P ↔ P (.bl false) h := Iff.rfl
theorem zck {i : Int} : vO (semC .is (.int i) .non h) P ↔ P (.bl false) h := Iff.rfl
theorem zcn {x : Str} : vO (semC .is (.str x) .non h) P ↔ P (.bl false) h := Iff.rfl
theorem zco {x : List D} : vO (semC .is (.tup x) .non h) P ↔ P (.bl false) h := Iff.rfl
theorem zcm {x : Nat} : vO (semC .is (.ref x) .non h) P ↔ P (.bl false) h := Iff.rfl
theorem zbo : vO (semC .isnot .non .non h) P ↔ P (.bl false) h := Iff.rfl
theorem zcp {i : Bool} : vO (semC .isnot (.bl i) .non h) P ↔ P (.bl true) h := Iff.rfl
theorem zbn {i : Int} : vO (semC .isnot (.int i) .non h) P ↔ P (.bl true) h := Iff.rfl
theorem zbq {x : Str} : vO (semC .isnot (.str x) .non h) P ↔ P (.bl true) h := Iff.rfl
theorem zbr {x : List D} : vO (semC .isnot (.tup x) .non h) P ↔ P (.bl true) h := Iff.rfl
theorem zbp {x : Nat} : vO (semC .isnot (.ref x) .non h) P ↔ P (.bl true) h := Iff.rfl
theorem pures_of {l : List D} (h : ∀ x ∈ l, D.pure x = true) : D.pures l = true := by
  induction l with
  | nil => rfl
  | cons a l ih =>
    show (D.pure a && D.pures l) = true
    rw [h a List.mem_cons_self, ih fun x hx => h x (List.mem_cons_of_mem _ hx)]; rfl
theorem pures_mem : ∀ {l : List D}, D.pures l = true → ∀ x ∈ l, D.pure x = true
  | [], _, _, hx => nomatch hx
  | a :: l, h, x, hx => by
    obtain ⟨h1, h2⟩ := and3 h
    rcases List.mem_cons.mp hx with rfl | hx
    · exact h1
    · exact pures_mem h2 x hx
theorem depthAll_of {k : Nat} {l : List D} (h : ∀ x ∈ l, x.depth ≤ k) : PyData.depthAll (D.pys l) ≤ k := by
  induction l with
  | nil => exact Nat.zero_le _
  | cons a l ih =>
    show PyData.depthAll (a.py :: D.pys l) ≤ k
    have h1 := h a List.mem_cons_self
    have h2 := ih fun x hx => h x (List.mem_cons_of_mem _ hx)
    unfold D.depth at h1
    simp only [PyData.depthAll]
    omega
theorem tup_depth {k : Nat} {l : List D} (h : ∀ x ∈ l, x.depth ≤ k) : (D.tup l).depth ≤ k + 1 := by
  have := depthAll_of h
  show PyData.depth (.tuple (D.pys l)) ≤ k + 1
  simp only [PyData.depth]
  omega
theorem eq_gen {a b : D} {k : Bool} (ha : a.pure = true) (hb : b.pure = true) (hd : a.depth ≤ 30) (e : PyData.eqv a.py b.py = k) : vO (semC .eq a b h) P ↔ P (.bl k) h := by
  have z : eqD a b = some k := by
    unfold eqD
    rw [if_pos ⟨ha, hb, by omega⟩, e]
  have : semC .eq a b h = some (.bl k, h) := by simp only [semC, semEq, z, Option.map_some]; rfl
  rw [this]; exact Iff.rfl
theorem ne_gen {a b : D} {k : Bool} (ha : a.pure = true) (hb : b.pure = true) (hd : a.depth ≤ 30) (e : PyData.eqv a.py b.py = k) : vO (semC .ne a b h) P ↔ P (.bl !k) h := by
  have z : eqD a b = some k := by
    unfold eqD
    rw [if_pos ⟨ha, hb, by omega⟩, e]
  have : semC .ne a b h = some (.bl !k, h) := by simp only [semC, semEq, z, Option.map_some]; rfl
  rw [this]; exact Iff.rfl
theorem eqv_ss {x y : Str} : PyData.eqv (D.py (.str x)) (D.py (.str y)) = decide (x = y) := by
  by_cases h : x = y
  · subst h; simp [D.py, PyData.eqv]
  · simp [D.py, PyData.eqv, h]
theorem eqv_bb {x y : Bool} : PyData.eqv (D.py (.bl x)) (D.py (.bl y)) = decide (x = y) := by
  cases x <;> cases y <;> simp [D.py, PyData.eqv]
theorem zdv {x y : Str} : vO (semC .eq (.str x) (.str y) h) P ↔ P (.bl (decide (x = y))) h := eq_gen rfl rfl (Nat.zero_le _) eqv_ss
theorem zdt {x y : Bool} : vO (semC .eq (.bl x) (.bl y) h) P ↔ P (.bl (decide (x = y))) h := eq_gen rfl rfl (Nat.zero_le _) eqv_bb
theorem zem {x y : Str} : vO (semC .ne (.str x) (.str y) h) P ↔ P (.bl !(decide (x = y))) h := ne_gen rfl rfl (Nat.zero_le _) eqv_ss
theorem zek {x y : Bool} : vO (semC .ne (.bl x) (.bl y) h) P ↔ P (.bl !(decide (x = y))) h := ne_gen rfl rfl (Nat.zero_le _) eqv_bb
theorem zel {i j : Int} : vO (semC .ne (.int i) (.int j) h) P ↔ P (.bl !(decide (i = j))) h := ne_gen rfl rfl (Nat.zero_le _) eqv_ii
theorem zej {x y : Str} : vO (semC .lt (.str x) (.str y) h) P ↔ P (.bl (decide (x.cps.toList < y.cps.toList))) h := Iff.rfl
theorem zbj {α : Type} [DecidableEq α] {a : α} : decide (a = a) = true := by simp
theorem notin_ref {a : D} {n : Nat} {bs : List D} (e : h[n]? = some (.lst bs)) (ha : a.pure = true) (hd : a.depth ≤ 30) (hb : D.pures bs = true) : vO (semC .notin a (.ref n) h) P ↔ P (.bl !(bs.any fun y => PyData.eqv y.py a.py)) h := by
  have z : inD a bs = some (bs.any fun y => PyData.eqv y.py a.py) := by
    unfold inD
    rw [if_pos ⟨ha, hb, by omega⟩]
  have : semC .notin a (.ref n) h = some (.bl !(bs.any fun y => PyData.eqv y.py a.py), h) := by simp only [semC, semIn2, e, semIn, z, Option.map_some]; rfl
  rw [this]; exact Iff.rfl
theorem in_ref {a : D} {n : Nat} {bs : List D} (e : h[n]? = some (.lst bs)) (ha : a.pure = true) (hd : a.depth ≤ 30) (hb : D.pures bs = true) : vO (semC .isin a (.ref n) h) P ↔ P (.bl (bs.any fun y => PyData.eqv y.py a.py)) h := by
  have z : inD a bs = some (bs.any fun y => PyData.eqv y.py a.py) := by
    unfold inD
    rw [if_pos ⟨ha, hb, by omega⟩]
  have : semC .isin a (.ref n) h = some (.bl (bs.any fun y => PyData.eqv y.py a.py), h) := by simp only [semC, semIn2, e, semIn, z, Option.map_some]; rfl
  rw [this]; exact Iff.rfl
theorem in_tup {a : D} {bs : List D} (ha : a.pure = true) (hd : a.depth ≤ 30) (hb : D.pures bs = true) : vO (semC .isin a (.tup bs) h) P ↔ P (.bl (bs.any fun y => PyData.eqv y.py a.py)) h := by
  have z : inD a bs = some (bs.any fun y => PyData.eqv y.py a.py) := by
    unfold inD
    rw [if_pos ⟨ha, hb, by omega⟩]
  have : semC .isin a (.tup bs) h = some (.bl (bs.any fun y => PyData.eqv y.py a.py), h) := by simp only [semC, semIn2, semIn, z, Option.map_some]; rfl
  rw [this]; exact Iff.rfl
theorem notin_tup {a : D} {bs : List D} (ha : a.pure = true) (hd : a.depth ≤ 30) (hb : D.pures bs = true) : vO (semC .notin a (.tup bs) h) P ↔ P (.bl !(bs.any fun y => PyData.eqv y.py a.py)) h := by
  have z : inD a bs = some (bs.any fun y => PyData.eqv y.py a.py) := by
    unfold inD
    rw [if_pos ⟨ha, hb, by omega⟩]
  have : semC .notin a (.tup bs) h = some (.bl !(bs.any fun y => PyData.eqv y.py a.py), h) := by simp only [semC, semIn2, semIn, z, Option.map_some]; rfl
  rw [this]; exact Iff.rfl
theorem zec {a : D} {l : List D} : vO (semIx2 (.tup (a :: l)) (.int 0) h) P ↔ P a h := ix_tup atI_0
theorem zed {a b : D} {l : List D} : vO (semIx2 (.tup (a :: b :: l)) (.int 1) h) P ↔ P b h := ix_tup atI_1
theorem zee {a b c : D} {l : List D} : vO (semIx2 (.tup (a :: b :: c :: l)) (.int 2) h) P ↔ P c h := ix_tup atI_2
theorem zef {a b c d : D} {l : List D} : vO (semIx2 (.tup (a :: b :: c :: d :: l)) (.int 3) h) P ↔ P d h := ix_tup atI_3
theorem ixN_last {n : Nat} (hn : 0 < n) : ixN n (-1) = some (n - 1) := by
  unfold ixN
  rw [if_neg (by decide), if_pos (by omega)]
  congr 1
  omega
theorem atI_last {α : Type} {l : List α} {x : α} : atI (l ++ [x]) (-1) = some x := by
  unfold atI
  rw [ixN_last (by simp)]
  simp
theorem ix_last {n : Nat} {l : List D} {x : D} (e : h[n]? = some (.lst (l ++ [x]))) : vO (semIx2 (.ref n) (.int (-1)) h) P ↔ P x h := ix_ref e atI_last
theorem ix_lastT {l : List D} {x : D} : vO (semIx2 (.tup (l ++ [x])) (.int (-1)) h) P ↔ P x h := ix_tup atI_last
theorem setD_last {n : Nat} {l : List D} {x d : D} (e : h[n]? = some (.lst (l ++ [x]))) : setD2 (.ref n) (.int (-1)) d h = some (h.set n (.lst (l ++ [d]))) := by
  have : (l ++ [x]).set l.length d = l ++ [d] := by simp
  rw [setD_ref (j := l.length) e (by rw [ixN_last (by simp)]; simp), this]
theorem seqOf_ref {n : Nat} {ds : List D} (e : h[n]? = some (.lst ds)) : seqOf h (.ref n) = some ds := by simp only [seqOf, e]
theorem listD_of {d : D} {ds : List D} (e : seqOf h d = some ds) : listD d h = some (.ref h.length, h ++ [.lst ds]) := by
  cases d with
  | ref n =>
    simp only [listD]
    cases q : h[n]? with
    | none => simp only [seqOf, q] at e; cases e
    | some o => cases o <;> first | (simp only [seqOf, q] at e; cases e; simp only [seqOf, q, Option.map_some]) | (simp only [seqOf, q] at e; cases e)
  | _ => simp only [listD, e, Option.map_some]
theorem list_v {d : D} {ds : List D} (e : seqOf h d = some ds) : vO (semB .list [d] h) P ↔ P (.ref h.length) (h ++ [.lst ds]) := by
  have : semB .list [d] h = some (.ref h.length, h ++ [.lst ds]) := by
    simp only [semB, on1]
    exact listD_of e
  rw [this]; exact Iff.rfl
theorem list_dk {n : Nat} {kvs : List (D × D)} (e : h[n]? = some (.dct kvs)) : vO (semB .list [.ref n] h) P ↔ P (.ref h.length) (h ++ [.lst (kvs.map (·.1))]) := by
  have : semB .list [.ref n] h = some (.ref h.length, h ++ [.lst (kvs.map (·.1))]) := by simp only [semB, on1, listD, e]
  rw [this]; exact Iff.rfl
theorem len_dk {n : Nat} {kvs : List (D × D)} (e : h[n]? = some (.dct kvs)) : vO (semB .len [.ref n] h) P ↔ P (.int kvs.length) h := by
  have : semB .len [.ref n] h = some (.int kvs.length, h) := by simp only [semB, on1, lenD, e]
  rw [this]; exact Iff.rfl
theorem tuple_v {d : D} {ds : List D} (e : seqOf h d = some ds) : vO (semB .tuple [d] h) P ↔ P (.tup ds) h := by
  have : semB .tuple [d] h = some (.tup ds, h) := by simp only [semB, on1, tupleD, e, Option.map_some]
  rw [this]; exact Iff.rfl
theorem zby {ds : List D} : vO (semB .tuple [.tup ds] h) P ↔ P (.tup ds) h := Iff.rfl
theorem ix_str {z : Str} {i : Int} {c : Nat} (e : z.length ≤ sizeLine) (e2 : atI z.cps.toList i = some c) : vO (semIx2 (.str z) (.int i) h) P ↔ P (.str ⟨#[c]⟩) h := by
  have : semIx2 (.str z) (.int i) h = some (.str ⟨#[c]⟩, h) := by simp only [semIx2, semIx]; rw [if_pos e, e2]; rfl
  rw [this]; exact Iff.rfl
theorem add_ss {a b : Str} (e : a.length + b.length ≤ sizeLine) : vO (semO .add (.str a) (.str b) h) P ↔ P (.str (a ++ b)) h := by
  have : semO .add (.str a) (.str b) h = some (.str (a ++ b), h) := by simp only [semO, semAdd]; rw [if_pos e]
  rw [this]; exact Iff.rfl
theorem add_tt {xs ys : List D} (e : xs.length + ys.length ≤ sizeLine) : vO (semO .add (.tup xs) (.tup ys) h) P ↔ P (.tup (xs ++ ys)) h := by
  have : semO .add (.tup xs) (.tup ys) h = some (.tup (xs ++ ys), h) := by simp only [semO, semAdd]; rw [if_pos e]
  rw [this]; exact Iff.rfl
theorem len_le {a b : Nat} (h : a ≤ 1000000) (e : b = a) : b ≤ sizeLine := by rw [sizeLine_eq]; omega
theorem sz {b : Nat} (e : b ≤ 1000000) : b ≤ sizeLine := by rw [sizeLine_eq]; omega
theorem mul_rep {n : Nat} {xs : List D} {k : Int} (e : h[n]? = some (.lst xs)) (h0 : 0 ≤ k) (h1 : k ≤ 1000) (h2 : xs.length ≤ 1000) : vO (semO .mul (.ref n) (.int k) h) P ↔ P (.ref h.length) (h ++ [.lst (List.replicate k.toNat xs).flatten]) := by
  have z : xs.length * k.toNat ≤ sizeLine := by
    rw [sizeLine_eq]
    exact Nat.le_trans (Nat.mul_le_mul h2 (by omega : k.toNat ≤ 1000)) (by decide)
  have : semO .mul (.ref n) (.int k) h = some (.ref h.length, h ++ [.lst (List.replicate k.toNat xs).flatten]) := by
    simp only [semO, semMul, e]
    rw [if_pos ⟨Int.le_trans (by decide) h0, Int.lt_of_le_of_lt h1 (by decide), z⟩]
  rw [this]; exact Iff.rfl
theorem add_ll {a b : Nat} {xs ys : List D} (e : h[a]? = some (.lst xs)) (e2 : h[b]? = some (.lst ys)) (z : xs.length + ys.length ≤ 1000000) : vO (semO .add (.ref a) (.ref b) h) P ↔ P (.ref h.length) (h ++ [.lst (xs ++ ys)]) := by
  have : semO .add (.ref a) (.ref b) h = some (.ref h.length, h ++ [.lst (xs ++ ys)]) := by
    simp only [semO, semAdd, e, e2]
    rw [if_pos (len_le z rfl)]
  rw [this]; exact Iff.rfl
theorem sl_ref {n : Nat} {xs : List D} {lo hi : Option Int} (e : h[n]? = some (.lst xs)) : vO (semSl (.ref n) lo hi h) P ↔ P (.ref h.length) (h ++ [.lst (cutD xs lo hi)]) := by
  have : semSl (.ref n) lo hi h = some (.ref h.length, h ++ [.lst (cutD xs lo hi)]) := by simp only [semSl, e]
  rw [this]; exact Iff.rfl
theorem zdf {xs : List D} {lo hi : Option Int} : vO (semSl (.tup xs) lo hi h) P ↔ P (.tup (cutD xs lo hi)) h := Iff.rfl
theorem cut_mem {xs : List D} {lo hi : Option Int} {x : D} (h : x ∈ cutD xs lo hi) : x ∈ xs := List.mem_of_mem_drop (List.mem_of_mem_take h)
theorem cut_len {xs : List D} {z : Int} (h : 0 ≤ z) : ((cutD xs none (some z)).length : Int) ≤ z := by
  unfold cutD
  rw [List.length_take]
  have : HT.sIx xs.length xs.length (some z) = min z.toNat xs.length := by
    unfold HT.sIx; dsimp only; rw [if_neg (by omega)]
  rw [this]
  show ((min (min z.toNat xs.length - 0) _ : Nat) : Int) ≤ z
  omega
theorem cut_le {xs : List D} {lo hi : Option Int} : (cutD xs lo hi).length ≤ xs.length := by
  unfold cutD
  rw [List.length_take, List.length_drop]
  omega
/-- xs[:n] -/
theorem cut_to {xs : List D} {n : Nat} : cutD xs none (some (n : Int)) = xs.take n := by
  unfold cutD
  have e1 : HT.sIx xs.length xs.length (some (n : Int)) = min n xs.length := by
    unfold HT.sIx; dsimp only; rw [if_neg (by omega)]; simp
  have e2 : HT.sIx xs.length 0 none = 0 := rfl
  rw [e1, e2, List.drop_zero, Nat.sub_zero]
  exact List.take_eq_take_iff.mpr (by omega)
/-- xs[n:] -/
theorem cut_from {xs : List D} {n : Nat} : cutD xs (some (n : Int)) none = xs.drop n := by
  unfold cutD
  have e1 : HT.sIx xs.length 0 (some (n : Int)) = min n xs.length := by
    unfold HT.sIx; dsimp only; rw [if_neg (by omega)]; simp
  have e2 : HT.sIx xs.length xs.length none = xs.length := rfl
  rw [e1, e2, List.take_of_length_le (by simp)]
  by_cases h : n ≤ xs.length
  · rw [Nat.min_eq_left h]
  · rw [Nat.min_eq_right (by omega), List.drop_length, List.drop_of_length_le (by omega)]
/-- xs[m:n] -/
theorem cut_mid {xs : List D} {m n : Nat} : cutD xs (some (m : Int)) (some (n : Int)) = (xs.take n).drop m := by
  unfold cutD
  have e1 : HT.sIx xs.length 0 (some (m : Int)) = min m xs.length := by
    unfold HT.sIx; dsimp only; rw [if_neg (by omega)]; simp
  have e2 : HT.sIx xs.length xs.length (some (n : Int)) = min n xs.length := by
    unfold HT.sIx; dsimp only; rw [if_neg (by omega)]; simp
  rw [e1, e2, List.drop_take]
  by_cases h : m ≤ xs.length
  · rw [show min m xs.length = m from by omega]
    exact List.take_eq_take_iff.mpr (by simp; omega)
  · rw [show min m xs.length = xs.length from by omega, List.drop_length, List.drop_of_length_le (by omega : xs.length ≤ m)]; simp
theorem snoc_all {Q : D → Prop} {l : List D} {x : D} (a : ∀ d ∈ l, Q d) (b : Q x) : ∀ d ∈ l ++ [x], Q d := fun d hd => by
  rcases List.mem_append.mp hd with z | z
  · exact a d z
  · rw [List.mem_singleton.mp z]; exact b
theorem rng_len {n : Nat} : ((List.range n).map fun (i : Nat) => D.int (i : Int)).length = n := by simp
theorem rng_get {n i : Nat} {x : D} (e : ((List.range n).map fun (i : Nat) => D.int (i : Int))[i]? = some x) : i < n ∧ x = D.int (i : Int) := by
  have hi : i < n := by
    have := (List.getElem?_eq_some_iff.mp e).1
    simpa using this
  rw [List.getElem?_map, List.getElem?_range hi] at e
  cases e
  exact ⟨hi, rfl⟩
theorem enum_get : ∀ {ds : List D} {k i : Nat}, (enumD k ds)[i]? = ds[i]?.map fun d => D.tup [.int ((k + i : Nat) : Int), d]
  | [], _, _ => rfl
  | d :: ds, k, 0 => rfl
  | d :: ds, k, i + 1 => by
    show (enumD (k + 1) ds)[i]? = ds[i]?.map _
    rw [enum_get]
    have : k + 1 + i = k + (i + 1) := by omega
    rw [this]
theorem enum_len : ∀ {ds : List D} {k : Nat}, (enumD k ds).length = ds.length
  | [], _ => rfl
  | d :: ds, k => congrArg (· + 1) enum_len
theorem set_last {a b : OD} : (h ++ [a]).set h.length b = h ++ [b] := by simp
theorem app_v {n : Nat} {xs : List D} {x : D} (e : h[n]? = some (.lst xs)) (z : xs.length ≤ 100000) (q : P .non (h.set n (.lst (xs ++ [x])))) : isLst h (.ref n) = true ∧ vO (semM .append (.ref n) [x] h) P := by
  refine ⟨by simp only [isLst, e], ?_⟩
  have : semM .append (.ref n) [x] h = some (.non, h.set n (.lst (xs ++ [x]))) := by
    simp only [semM, appendD, e]
    rw [if_pos (by rw [sizeLine_eq]; omega)]
  rw [this]; exact q
theorem isLst_ref {n : Nat} {xs : List D} (e : h[n]? = some (.lst xs)) : isLst h (.ref n) = true := by simp only [isLst, e]
theorem app_m {n : Nat} {xs : List D} {x : D} (e : h[n]? = some (.lst xs)) (z : xs.length ≤ 100000) : vO (semM .append (.ref n) [x] h) P ↔ P .non (h.set n (.lst (xs ++ [x]))) := by
  have : semM .append (.ref n) [x] h = some (.non, h.set n (.lst (xs ++ [x]))) := by
    simp only [semM, appendD, e]
    rw [if_pos (by rw [sizeLine_eq]; omega)]
  rw [this]; exact Iff.rfl
theorem zcq {ds : List D} {Q : ItD → Hd → Prop} : itD (itSeq (.tup ds) h) Q h ↔ Q ⟨ds, []⟩ h := Iff.rfl
theorem it_ref {n : Nat} {ds : List D} {Q : ItD → Hd → Prop} (e : h[n]? = some (.lst ds)) : itD (itSeq (.ref n) h) Q h ↔ Q ⟨ds, [(n, ds)]⟩ h := itD_of (by simp only [itSeq, e])
theorem zbs {ds es : List D} {Q : ItD → Hd → Prop} : itD (itZip (.tup ds) (.tup es) h) Q h ↔ Q ⟨(ds.zip es).map fun p => .tup [p.1, p.2], []⟩ h := Iff.rfl
theorem zbm {ds : List D} {Q : ItD → Hd → Prop} : itD (itEnum (.tup ds) h) Q h ↔ Q ⟨enumD 0 ds, []⟩ h := Iff.rfl
theorem tr_ref {n : Nat} {ds : List D} {T : Bool → Hd → Prop} (e : h[n]? = some (.lst ds)) : trD T (.ref n) h ↔ T (!ds.isEmpty) h := trD_of (by simp only [truD, seqOf, e, Option.map_some])
theorem zdl {ds : List D} {T : Bool → Hd → Prop} : trD T (.tup ds) h ↔ T (!ds.isEmpty) h := Iff.rfl
end
/-- range(i), i perhaps below 0 -/
theorem rngD_z {h : Hd} {P : ItD → Hd → Prop} {i : Int} (h0 : -1000000 ≤ i) (hn : i ≤ 1000000) (q : P ⟨(List.range i.toNat).map fun (i : Nat) => .int (i : Int), []⟩ h) : rngW P (.int i) h := by
  unfold rngW
  exact (rngD_int (Int.le_trans (by decide) h0) (Int.lt_of_le_of_lt hn (by decide))).mpr q
/-- nothing that was there is changed -/
structure Kp (h h' : Hd) : Prop where
  len : h.length ≤ h'.length
  keep : ∀ (i : Nat) o, h[i]? = some o → h'[i]? = some o
theorem Kp.refl {h : Hd} : Kp h h := ⟨Nat.le_refl _, fun _ _ e => e⟩
theorem Kp.trans {h h1 h2 : Hd} (a : Kp h h1) (b : Kp h1 h2) : Kp h h2 := ⟨Nat.le_trans a.len b.len, fun i o e => b.keep i o (a.keep i o e)⟩
theorem Kp.app {h k : Hd} : Kp h (h ++ k) := ⟨by simp, fun i u e => by rw [List.getElem?_append_left (List.getElem?_eq_some_iff.mp e).1]; exact e⟩
theorem Kp.put {n : Nat} {h h1 : Hd} {o : OD} (f : Kp h h1) (e : h.length ≤ n) : Kp h (h1.set n o) := ⟨by rw [List.length_set]; exact f.len, fun i u ei => by
  rw [List.getElem?_set_ne (by have := (List.getElem?_eq_some_iff.mp ei).1; omega)]
  exact f.keep i u ei⟩
theorem Kp.more {h h1 k : Hd} (f : Kp h h1) : Kp h (h1 ++ k) := f.trans .app
theorem get_app {h k : Hd} {n : Nat} {o : OD} (e : h[n]? = some o) : (h ++ k)[n]? = some o := app_at e
theorem set_ne {h : Hd} {n m : Nat} {o u : OD} (e : h[n]? = some o) (d : m ≠ n) : (h.set m u)[n]? = some o := by rw [List.getElem?_set_ne d]; exact e
theorem lt_of {h : Hd} {n : Nat} {o : OD} (e : h[n]? = some o) : n < h.length := (List.getElem?_eq_some_iff.mp e).1
theorem keysL_of {F : D → Hd → Res D} {kf : D → D} {h : Hd} : ∀ {ds : List D}, (∀ d ∈ ds, F d h = .ok (kf d) h) → keysL F ds h = .ok (ds.map kf) h
  | [], _ => rfl
  | d :: ds, q => by
    unfold keysL
    rw [q d List.mem_cons_self, Res.bind_ok, keysL_of fun x hx => q x (List.mem_cons_of_mem _ hx)]
    rfl
/-- sorted by an order on anything -/
def sortA {α : Type} (lt : α → α → Bool) (l : List α) : List α := l.mergeSort fun a b => !lt b a
theorem sortA_perm {α : Type} {lt : α → α → Bool} {l : List α} : (sortA lt l).Perm l := List.mergeSort_perm _ _
theorem sortA_mem {α : Type} {lt : α → α → Bool} {l : List α} {a : α} : a ∈ sortA lt l ↔ a ∈ l := sortA_perm.mem_iff
theorem sortA_len {α : Type} {lt : α → α → Bool} {l : List α} : (sortA lt l).length = l.length := sortA_perm.length_eq
theorem sortA_map {α β : Type} {f : α → β} {lt : α → α → Bool} {lt' : β → β → Bool} {l : List α} (h : ∀ a ∈ l, ∀ b ∈ l, lt' (f a) (f b) = lt a b) : sortA lt' (l.map f) = (sortA lt l).map f := by
  unfold sortA
  refine (List.map_mergeSort fun a ha b hb => ?_).symm
  rw [h b hb a ha]
theorem sortA_sorted {α : Type} {lt : α → α → Bool} {l : List α} (tr : ∀ a b c, lt b a = false → lt c b = false → lt c a = false) (to : ∀ a b, lt a b = false ∨ lt b a = false) : (sortA lt l).Pairwise fun a b => lt b a = false := by
  have := List.pairwise_mergeSort (le := fun a b => !lt b a) (fun a b c h1 h2 => by
    simp only [Bool.not_eq_true'] at *
    exact tr a b c h1 h2) (fun a b => by
    simp only [Bool.or_eq_true, Bool.not_eq_true']
    rcases to a b with z | z
    · exact .inr z
    · exact .inl z) l
  exact this.imp fun h => by simpa using h
/-- the sort of data, by typed things -/
theorem sortB_map {α : Type} {l : List α} {f kf : α → D} {lt : α → α → Bool} (h : ∀ a ∈ l, ∀ b ∈ l, PySem.W.dataLt (kf a).py (kf b).py = lt a b) : sortB ((l.map f).zip (l.map kf)) = (sortA lt l).map f := by
  have e : (l.map f).zip (l.map kf) = l.map fun a => (f a, kf a) := by
    induction l with
    | nil => rfl
    | cons a l ih => simp only [List.map_cons, List.zip_cons_cons]; rw [ih fun a ha b hb => h a (List.mem_cons_of_mem _ ha) b (List.mem_cons_of_mem _ hb)]
  unfold sortB sortA
  rw [e]
  have := List.map_mergeSort (f := fun a => (f a, kf a)) (r := fun a b => !lt b a) (s := PySem.W.dataLe false fun p : D × D => p.2.py) (l := l) fun a ha b hb => by
    show (!lt b a) = _
    show _ = !(PySem.W.dataLt (kf b).py (kf a).py)
    rw [h b hb a ha]
  rw [← this, List.map_map]
  rfl
def ltK : Key → Key → Bool
  | .inl i, .inl j => decide (i < j)
  | .inl _, .inr _ => true
  | .inr _, .inl _ => false
  | .inr x, .inr y => decide (x.cps.toList < y.cps.toList)
theorem lt_irr (l : List Nat) : ¬ l < l := List.lt_irrefl l
theorem al_ss (x y : Str) : PySem.W.alike (.str x) (.str y) = true := by simp [PySem.W.alike]
theorem eqv_ss' (x y : Str) : PyData.eqv (.str x) (.str y) = decide (x = y) := eqv_ss
/-- one more item behind equal ones -/
theorem lex_int (i j : Int) (xs ys : List PyData) : PyProof.Rows.lexLt itemOrd (PySem.W.keyToksAll (.int i :: xs)) (PySem.W.keyToksAll (.int j :: ys)) = if i = j then PyProof.Rows.lexLt itemOrd (PySem.W.keyToksAll xs) (PySem.W.keyToksAll ys) else decide (i < j) := by
  by_cases h : i = j
  · rw [if_pos h, PySem.W.dataLt_all_yes (PySem.W.alike_ii i j) (by rw [PySem.W.eqv_ii']; exact decide_eq_true h)]
  · rw [if_neg h, PySem.W.dataLt_all_no (PySem.W.alike_ii i j) (by rw [PySem.W.eqv_ii']; exact decide_eq_false h), PySem.W.dataLt_int]
theorem lex_str (x y : Str) (xs ys : List PyData) : PyProof.Rows.lexLt itemOrd (PySem.W.keyToksAll (.str x :: xs)) (PySem.W.keyToksAll (.str y :: ys)) = if x = y then PyProof.Rows.lexLt itemOrd (PySem.W.keyToksAll xs) (PySem.W.keyToksAll ys) else decide (x.cps.toList < y.cps.toList) := by
  by_cases h : x = y
  · rw [if_pos h, PySem.W.dataLt_all_yes (al_ss x y) (by rw [eqv_ss']; exact decide_eq_true h)]
  · rw [if_neg h, PySem.W.dataLt_all_no (al_ss x y) (by rw [eqv_ss']; exact decide_eq_false h), PySem.W.dataLt_str]
theorem lex_nil : PyProof.Rows.lexLt itemOrd (PySem.W.keyToksAll []) (PySem.W.keyToksAll []) = false := PyProof.Rows.lex_irrefl _
theorem str_ext {x y : Str} (h : x.cps.toList = y.cps.toList) : x = y := by
  obtain ⟨a⟩ := x
  obtain ⟨b⟩ := y
  have : a = b := Array.toList_inj.mp h
  rw [this]
/-- a scalar's rank in the program, its order in a law -/
def rkD : Key → D
  | .inr x => .tup [.int 1, .str x]
  | .inl i => .tup [.int 0, .int i]
def ordD : Key → D
  | .inr x => .tup [.int 1, .int 0, .str x]
  | .inl i => .tup [.int 0, .int i, .str ""]
theorem one_int (i j : Int) : (if i = j then false else decide (i < j)) = decide (i < j) := by
  by_cases h : i = j
  · rw [if_pos h]; subst h; simp
  · rw [if_neg h]
theorem one_str (x y : Str) : (if x = y then false else decide (x.cps.toList < y.cps.toList)) = decide (x.cps.toList < y.cps.toList) := by
  by_cases h : x = y
  · rw [if_pos h]; subst h; simp [lt_irr]
  · rw [if_neg h]
theorem rk_lt (a b : Key) : PySem.W.dataLt (rkD a).py (rkD b).py = ltK a b := by
  cases a with
  | inl i => cases b with
    | inl j =>
      show PyProof.Rows.lexLt itemOrd (PySem.W.keyToksAll [.int 0, .int i]) (PySem.W.keyToksAll [.int 0, .int j]) = _
      rw [lex_int, if_pos rfl, lex_int, lex_nil]; exact one_int i j
    | inr y =>
      show PyProof.Rows.lexLt itemOrd (PySem.W.keyToksAll [.int 0, .int i]) (PySem.W.keyToksAll [.int 1, .str y]) = _
      rw [lex_int, if_neg (by decide)]; rfl
  | inr x => cases b with
    | inl j =>
      show PyProof.Rows.lexLt itemOrd (PySem.W.keyToksAll [.int 1, .str x]) (PySem.W.keyToksAll [.int 0, .int j]) = _
      rw [lex_int, if_neg (by decide)]; rfl
    | inr y =>
      show PyProof.Rows.lexLt itemOrd (PySem.W.keyToksAll [.int 1, .str x]) (PySem.W.keyToksAll [.int 1, .str y]) = _
      rw [lex_int, if_pos rfl, lex_str, lex_nil]; exact one_str x y
theorem ord_lt (a b : Key) : PySem.W.dataLt (ordD a).py (ordD b).py = ltK a b := by
  cases a with
  | inl i => cases b with
    | inl j =>
      show PyProof.Rows.lexLt itemOrd (PySem.W.keyToksAll [.int 0, .int i, .str ""]) (PySem.W.keyToksAll [.int 0, .int j, .str ""]) = _
      rw [lex_int, if_pos rfl, lex_int, lex_str, if_pos rfl, lex_nil]; exact one_int i j
    | inr y =>
      show PyProof.Rows.lexLt itemOrd (PySem.W.keyToksAll [.int 0, .int i, .str ""]) (PySem.W.keyToksAll [.int 1, .int 0, .str y]) = _
      rw [lex_int, if_neg (by decide)]; rfl
  | inr x => cases b with
    | inl j =>
      show PyProof.Rows.lexLt itemOrd (PySem.W.keyToksAll [.int 1, .int 0, .str x]) (PySem.W.keyToksAll [.int 0, .int j, .str ""]) = _
      rw [lex_int, if_neg (by decide)]; rfl
    | inr y =>
      show PyProof.Rows.lexLt itemOrd (PySem.W.keyToksAll [.int 1, .int 0, .str x]) (PySem.W.keyToksAll [.int 1, .int 0, .str y]) = _
      rw [lex_int, if_pos rfl, lex_int, if_pos rfl, lex_str, lex_nil]; exact one_str x y
def ltP (a b : Int × Int) : Bool := if a.1 = b.1 then decide (a.2 < b.2) else decide (a.1 < b.1)
def ipD (p : Int × Int) : D := .tup [.int p.1, .int p.2]
theorem ip_lt (a b : Int × Int) : PySem.W.dataLt (ipD a).py (ipD b).py = ltP a b := by
  show PyProof.Rows.lexLt itemOrd (PySem.W.keyToksAll [.int a.1, .int a.2]) (PySem.W.keyToksAll [.int b.1, .int b.2]) = _
  rw [lex_int, lex_int, lex_nil, one_int]; rfl
theorem int_lt (i j : Int) : PySem.W.dataLt (D.int i).py (D.int j).py = decide (i < j) := PySem.W.dataLt_int i j
section
variable {h : Hd} {P : D → Hd → Prop}
theorem lt_rk {a b : Key} : vO (semC .lt (rkD a) (rkD b) h) P ↔ P (.bl (ltK a b)) h := by
  have e : semC .lt (rkD a) (rkD b) h = some (.bl (ltK a b), h) := by
    cases a with
    | inl i => cases b with
      | inl j =>
        show semLt2 (.tup [.int 0, .int i]) (.tup [.int 0, .int j]) h = _
        simp only [semLt2]
        rw [if_pos ⟨rfl, rfl, by show (!decide ((0 : Int) = 0) || PySem.W.alike (.int i) (.int j)) = true; rw [PySem.W.alike_ii]; rfl, rfl, rfl⟩]
        show some (D.bl (PySem.W.rankLt (.tuple [.int 0, .int i]) (.tuple [.int 0, .int j])), h) = _
        rw [PySem.W.rankLt_def, if_pos rfl, PySem.W.eqv_ii', PySem.W.dataLt_int]
        show some (D.bl (if decide (i = j) = true then false else decide (i < j)), h) = _
        simp only [decide_eq_true_eq, one_int]; rfl
      | inr y => rfl
    | inr x => cases b with
      | inl j => rfl
      | inr y =>
        show semLt2 (.tup [.int 1, .str x]) (.tup [.int 1, .str y]) h = _
        simp only [semLt2]
        rw [if_pos ⟨rfl, rfl, by show (!decide ((1 : Int) = 1) || PySem.W.alike (.str x) (.str y)) = true; rw [al_ss]; rfl, rfl, rfl⟩]
        show some (D.bl (PySem.W.rankLt (.tuple [.int 1, .str x]) (.tuple [.int 1, .str y])), h) = _
        rw [PySem.W.rankLt_def, if_pos rfl, eqv_ss', PySem.W.dataLt_str]
        show some (D.bl (if decide (x = y) = true then false else decide (x.cps.toList < y.cps.toList)), h) = _
        simp only [decide_eq_true_eq, one_str]; rfl
  rw [e]; exact Iff.rfl
theorem ord_alike (a b : Key) : PySem.W.alike (ordD a).py (ordD b).py = true := by
  cases a <;> cases b <;> simp [ordD, D.py, D.pys, PySem.W.alike, PySem.W.alikeAll]
theorem lt_ord {a b : Key} : vO (semC .lt (ordD a) (ordD b) h) P ↔ P (.bl (ltK a b)) h := by
  have e : semC .lt (ordD a) (ordD b) h = some (.bl (ltK a b), h) := by
    have key : ∀ xs ys, ordD a = .tup xs → ordD b = .tup ys → PySem.W.rankP (D.tup xs).py = false → D.pures xs = true → D.pures ys = true → min (D.tup xs).depth (D.tup ys).depth ≤ 40 → semLt2 (.tup xs) (.tup ys) h = some (.bl (ltK a b), h) := by
      intro xs ys e1 e2 h1 h2 h3 h4
      simp only [semLt2]
      rw [if_neg (fun z => by rw [h1] at z; exact absurd z.1 (by decide)), if_pos ⟨by rw [← e1, ← e2]; exact ord_alike a b, h2, h3, h4⟩, ← e1, ← e2, ord_lt]
    cases a <;> cases b <;> exact key _ _ rfl rfl rfl rfl rfl (Nat.le_trans (Nat.min_le_left _ _) (by simp [D.depth, D.py, D.pys, PyData.depth, PyData.depthAll]))
  rw [e]; exact Iff.rfl
end
theorem Res.sat_eq {α : Type} {r : Res α} {v : α} {h : Hd} (s : r.sat fun d h' => d = v ∧ h' = h) : r = .ok v h := by
  cases r with
  | ok a h' => obtain ⟨e1, e2⟩ := s; rw [e1, e2]
  | ex x h' => exact s.elim
  | bad => exact s.elim
theorem v_is {E : XP} {F : Fn} {ds : List D} {h h1 : Hd} {v : D} {P : D → Hd → Prop} (e : F ds h = .ok v h1) : vC (E := E) F ds h P ↔ P v h1 := by
  unfold vC
  rw [e]; exact Iff.rfl
theorem vC_ex {E : XP} {F : Fn} {ds : List D} {h h1 : Hd} {x : Exn} {P : D → Hd → Prop} (e : F ds h = .ex x h1) : vC (E := E) F ds h P ↔ E x h1 := by
  unfold vC
  rw [e]; exact Iff.rfl
theorem sortR_v {E : XP} {v : Bool} {F : D → Hd → Res D} {kf : D → D} {x : D} {ds : List D} {h : Hd} {P : D → Hd → Prop} (src : srcOf v x h = some ds) (len : ds.length ≤ 1000000) (hF : ∀ d ∈ ds, F d h = .ok (kf d) h) (so : SortsOk (ds.map kf))
    (q : P (.ref h.length) (h ++ [.lst (sortB (ds.zip (ds.map kf)))])) : (sortR v F x h).satE E P := by
  unfold sortR
  rw [src]
  dsimp only
  rw [if_pos (sz len), keysL_of hF]
  have e2 : noEx (Res.ok (ds.map kf) h) = .ok (ds.map kf) h := rfl
  rw [e2, Res.bind_ok, if_pos so]
  exact q
theorem sorted_v {ds : List D} {d : D} {h : Hd} {P : D → Hd → Prop} (e : seqOf h d = some ds) (len : ds.length ≤ 1000000) (so : SortsOk ds) (q : P (.ref h.length) (h ++ [.lst (sortB (ds.zip ds))])) : vO (semB .sorted [d] h) P := by
  have : semB .sorted [d] h = some (.ref h.length, h ++ [.lst (sortB (ds.zip ds))]) := by
    simp only [semB, on1, sortedD, e]
    rw [if_pos ⟨so, sz len⟩]
  rw [this]; exact q
/-- keys of ints, of ranks, of a law's order, of pairs of ints -/
theorem so_ints {α : Type} {l : List α} {kf : α → Int} : SortsOk (l.map fun a => D.int (kf a)) where
  pure := pures_of fun x hx => by obtain ⟨a, _, rfl⟩ := List.mem_map.mp hx; rfl
  ord := .inl ⟨fun d hd d' hd' => by
      obtain ⟨x, hx, rfl⟩ := List.mem_map.mp hd
      obtain ⟨y, hy, rfl⟩ := List.mem_map.mp hd'
      obtain ⟨a, _, rfl⟩ := List.mem_map.mp hx
      obtain ⟨b, _, rfl⟩ := List.mem_map.mp hy
      exact PySem.W.alike_ii _ _, .inr fun d hd => by
      obtain ⟨x, hx, rfl⟩ := List.mem_map.mp hd
      obtain ⟨a, _, rfl⟩ := List.mem_map.mp hx
      exact ⟨fun z => (nomatch z), fun xs z => (nomatch z)⟩⟩
  depth := fun x hx => by obtain ⟨a, _, rfl⟩ := List.mem_map.mp hx; exact Nat.zero_le _
theorem so_ord {α : Type} {l : List α} {kf : α → Key} : SortsOk (l.map fun a => ordD (kf a)) where
  pure := pures_of fun x hx => by obtain ⟨a, _, rfl⟩ := List.mem_map.mp hx; cases kf a <;> rfl
  ord := .inl ⟨fun d hd d' hd' => by
      obtain ⟨x, hx, rfl⟩ := List.mem_map.mp hd
      obtain ⟨y, hy, rfl⟩ := List.mem_map.mp hd'
      obtain ⟨a, _, rfl⟩ := List.mem_map.mp hx
      obtain ⟨b, _, rfl⟩ := List.mem_map.mp hy
      exact ord_alike _ _, .inl fun d hd => by
      obtain ⟨x, hx, rfl⟩ := List.mem_map.mp hd
      obtain ⟨a, _, rfl⟩ := List.mem_map.mp hx
      cases kf a <;> exact ⟨_, _, rfl⟩⟩
  depth := fun x hx => by
    obtain ⟨a, _, rfl⟩ := List.mem_map.mp hx
    cases kf a <;> simp [ordD, D.depth, D.py, D.pys, PyData.depth, PyData.depthAll]
theorem so_rk {α : Type} {l : List α} {kf : α → Key} : SortsOk (l.map fun a => rkD (kf a)) where
  pure := pures_of fun x hx => by obtain ⟨a, _, rfl⟩ := List.mem_map.mp hx; cases kf a <;> rfl
  ord := .inr ⟨fun d hd => by
      obtain ⟨x, hx, rfl⟩ := List.mem_map.mp hd
      obtain ⟨a, _, rfl⟩ := List.mem_map.mp hx
      cases kf a <;> rfl, fun d hd d' hd' => by
      obtain ⟨x, hx, rfl⟩ := List.mem_map.mp hd
      obtain ⟨y, hy, rfl⟩ := List.mem_map.mp hd'
      obtain ⟨a, _, rfl⟩ := List.mem_map.mp hx
      obtain ⟨b, _, rfl⟩ := List.mem_map.mp hy
      cases kf a with
      | inl i => cases kf b with
        | inl j => show (!decide ((0 : Int) = 0) || PySem.W.alike (.int i) (.int j)) = true; rw [PySem.W.alike_ii]; rfl
        | inr y => rfl
      | inr x => cases kf b with
        | inl j => rfl
        | inr y => show (!decide ((1 : Int) = 1) || PySem.W.alike (.str x) (.str y)) = true; rw [al_ss]; rfl⟩
  depth := fun x hx => by
    obtain ⟨a, _, rfl⟩ := List.mem_map.mp hx
    cases kf a <;> simp [rkD, D.depth, D.py, D.pys, PyData.depth, PyData.depthAll]
theorem so_ip {l : List (Int × Int)} : SortsOk (l.map ipD) where
  pure := pures_of fun x hx => by obtain ⟨a, _, rfl⟩ := List.mem_map.mp hx; rfl
  ord := .inl ⟨fun d hd d' hd' => by
      obtain ⟨x, hx, rfl⟩ := List.mem_map.mp hd
      obtain ⟨y, hy, rfl⟩ := List.mem_map.mp hd'
      obtain ⟨a, _, rfl⟩ := List.mem_map.mp hx
      obtain ⟨b, _, rfl⟩ := List.mem_map.mp hy
      simp [ipD, D.py, D.pys, PySem.W.alike, PySem.W.alikeAll], .inl fun d hd => by
      obtain ⟨x, hx, rfl⟩ := List.mem_map.mp hd
      obtain ⟨a, _, rfl⟩ := List.mem_map.mp hx
      exact ⟨_, _, rfl⟩⟩
  depth := fun x hx => by
    obtain ⟨a, _, rfl⟩ := List.mem_map.mp hx
    simp [ipD, D.depth, D.py, D.pys, PyData.depth, PyData.depthAll]
def put {α : Type} (t : List (Key × α)) (k : Key) (v : α) : List (Key × α) := if (t.any fun p => decide (p.1 = k)) = true then t.map (fun p => if p.1 = k then (p.1, v) else p) else t ++ [(k, v)]
def getA {α : Type} (t : List (Key × α)) (k : Key) : Option α := (t.find? fun p => decide (p.1 = k)).map (·.2)
def tabD {α : Type} (f : α → D) (t : List (Key × α)) : List (D × D) := t.map fun p => (kD p.1, f p.2)
section
variable {α : Type} {f : α → D} {t : List (Key × α)} {k : Key} {v : α}
theorem tab_any : (tabD f t).any (fun p => D.keq p.1 (kD k)) = t.any fun p => decide (p.1 = k) := by
  induction t with
  | nil => rfl
  | cons p t ih =>
    show (D.keq (kD p.1) (kD k) || (tabD f t).any _) = (decide (p.1 = k) || t.any _)
    rw [ih, keq_kD]
theorem dput_tab : dput (tabD f t) (kD k) (f v) = tabD f (put t k v) := by
  unfold dput put
  rw [tab_any]
  split
  · unfold tabD
    rw [List.map_map, List.map_map]
    refine List.map_congr_left fun p _ => ?_
    show (if D.keq (kD p.1) (kD k) = true then (kD p.1, f v) else (kD p.1, f p.2)) = _
    rw [keq_kD]
    by_cases e : p.1 = k
    · simp [e]
    · simp [e]
  · unfold tabD
    simp
theorem dget_tab : dget (tabD f t) (kD k) = (getA t k).map f := by
  unfold dget getA
  induction t with
  | nil => rfl
  | cons p t ih =>
    show ((List.find? (fun q => D.keq q.1 (kD k)) ((kD p.1, f p.2) :: tabD f t)).map _) = _
    rw [List.find?_cons, List.find?_cons]
    show (match D.keq (kD p.1) (kD k) with | true => some (kD p.1, f p.2) | false => List.find? _ (tabD f t)).map _ = _
    rw [keq_kD]
    by_cases e : p.1 = k
    · rw [decide_eq_true e]; rfl
    · rw [decide_eq_false e]
      exact ih
theorem put_keys : (put t k v).map (·.1) = if (t.any fun p => decide (p.1 = k)) = true then t.map (·.1) else t.map (·.1) ++ [k] := by
  unfold put
  split
  · rw [List.map_map]
    refine List.map_congr_left fun p _ => ?_
    show (if p.1 = k then (p.1, v) else p).1 = p.1
    split <;> rfl
  · simp
theorem any_key : (t.any fun p => decide (p.1 = k)) = true ↔ k ∈ t.map (·.1) := by
  simp only [List.any_eq_true, decide_eq_true_eq, List.mem_map]
theorem put_nodup (h : (t.map (·.1)).Nodup) : ((put t k v).map (·.1)).Nodup := by
  rw [put_keys]
  split
  · exact h
  · rename_i n
    refine List.nodup_append.mpr ⟨h, by simp, fun a ha b hb => ?_⟩
    rw [List.mem_singleton.mp hb]
    intro e; subst e
    exact n (any_key.mpr ha)
theorem put_len : (put t k v).length ≤ t.length + 1 := by
  unfold put
  split <;> simp
theorem put_mem {j : Key} : j ∈ (put t k v).map (·.1) ↔ j ∈ t.map (·.1) ∨ j = k := by
  rw [put_keys]
  split
  · rename_i n
    have := any_key.mp n
    constructor
    · exact .inl
    · rintro (z | rfl)
      · exact z
      · exact this
  · simp
/-- a table's value -/
theorem getA_nodup (h : (t.map (·.1)).Nodup) {p : Key × α} (hp : p ∈ t) : getA t p.1 = some p.2 := by
  unfold getA
  induction t with
  | nil => cases hp
  | cons q t ih =>
    rw [List.find?_cons]
    have h' := List.nodup_cons.mp h
    rcases List.mem_cons.mp hp with rfl | hp
    · rw [decide_eq_true rfl]; rfl
    · have ne : q.1 ≠ p.1 := fun e => h'.1 (List.mem_map.mpr ⟨p, hp, e.symm⟩)
      rw [decide_eq_false ne]
      exact ih h'.2 hp
def tabOf (es : List (Key × α)) : List (Key × α) := es.foldl (fun t p => put t p.1 p.2) []
theorem tabOf_snoc {es : List (Key × α)} {p : Key × α} : tabOf (es ++ [p]) = put (tabOf es) p.1 p.2 := by
  unfold tabOf; rw [List.foldl_append]; rfl
theorem tabOf_nodup (es : List (Key × α)) : ((tabOf es).map (·.1)).Nodup := by
  unfold tabOf
  suffices H : ∀ t : List (Key × α), (t.map (·.1)).Nodup → ((es.foldl (fun t p => put t p.1 p.2) t).map (·.1)).Nodup from H [] (by simp)
  induction es with
  | nil => exact fun t h => h
  | cons p es ih => exact fun t h => ih _ (put_nodup h)
theorem tabOf_len (es : List (Key × α)) : (tabOf es).length ≤ es.length := by
  unfold tabOf
  suffices H : ∀ t : List (Key × α), (es.foldl (fun t p => put t p.1 p.2) t).length ≤ t.length + es.length by
    have := H []; simpa using this
  induction es with
  | nil => exact fun t => Nat.le_refl _
  | cons p es ih => exact fun t => Nat.le_trans (ih _) (by have := put_len (t := t) (k := p.1) (v := p.2); simp only [List.length_cons]; omega)
end
theorem take_snoc {α : Type} {l : List α} {i : Nat} {x : α} (e : l[i]? = some x) : l.take (i + 1) = l.take i ++ [x] := by
  rw [List.take_add_one, e]; rfl
theorem zbf {ds : List D} {τ : Sd} : setNs [] ds τ = τ := rfl
theorem zbd {i : Nat} {is : List Nat} {d : D} {ds : List D} {τ : Sd} : setNs (i :: is) (d :: ds) τ = setNs is ds (τ.set i (some d)) := rfl
theorem sl0 : (([] : List D).length ≤ sizeLine) = True := eq_true (len_le (a := 0) (by decide) rfl)
theorem sl1 {a0 : D} : (([a0] : List D).length ≤ sizeLine) = True := eq_true (len_le (a := 1) (by decide) rfl)
theorem sl2 {a0 a1 : D} : (([a0, a1] : List D).length ≤ sizeLine) = True := eq_true (len_le (a := 2) (by decide) rfl)
theorem sl3 {a0 a1 a2 : D} : (([a0, a1, a2] : List D).length ≤ sizeLine) = True := eq_true (len_le (a := 3) (by decide) rfl)
theorem sl4 {a0 a1 a2 a3 : D} : (([a0, a1, a2, a3] : List D).length ≤ sizeLine) = True := eq_true (len_le (a := 4) (by decide) rfl)
theorem sl5 {a0 a1 a2 a3 a4 : D} : (([a0, a1, a2, a3, a4] : List D).length ≤ sizeLine) = True := eq_true (len_le (a := 5) (by decide) rfl)
theorem sl6 {a0 a1 a2 a3 a4 a5 : D} : (([a0, a1, a2, a3, a4, a5] : List D).length ≤ sizeLine) = True := eq_true (len_le (a := 6) (by decide) rfl)
theorem sl7 {a0 a1 a2 a3 a4 a5 a6 : D} : (([a0, a1, a2, a3, a4, a5, a6] : List D).length ≤ sizeLine) = True := eq_true (len_le (a := 7) (by decide) rfl)
theorem sl8 {a0 a1 a2 a3 a4 a5 a6 a7 : D} : (([a0, a1, a2, a3, a4, a5, a6, a7] : List D).length ≤ sizeLine) = True := eq_true (len_le (a := 8) (by decide) rfl)
theorem app2_0 {h : Hd} {a b : OD} : (h ++ [a, b])[h.length]? = some a := by simp
theorem app2_1 {h : Hd} {a b : OD} : (h ++ [a, b])[h.length + 1]? = some b := by simp
theorem snoc2 {h : Hd} {a b : OD} : (h ++ [a]) ++ [b] = h ++ [a, b] := by simp
theorem len1 {h : Hd} {a : OD} : (h ++ [a]).length = h.length + 1 := by simp
theorem set_0 {h : Hd} {n : Nat} {o u : OD} (e : h[n]? = some u) : (h.set n o)[n]? = some o := set_at e
end DL

set_option Elab.async false
set_option linter.all false
set_option maxRecDepth 100000
namespace DL
def memI (R : List (Int × Int)) (x : Int) : Prop := ∃ p ∈ R, p.1 ≤ x ∧ x < p.2
structure CanonI (R : List (Int × Int)) : Prop where
  ne : ∀ p ∈ R, p.1 < p.2
  gap : R.Pairwise fun p q => p.2 < q.1
theorem memI_nil {x : Int} : ¬ memI [] x := fun ⟨_, h, _⟩ => nomatch h
theorem memI_append {R S : List (Int × Int)} {x : Int} : memI (R ++ S) x ↔ memI R x ∨ memI S x := by
  constructor
  · rintro ⟨p, hp, h⟩
    rcases List.mem_append.mp hp with z | z
    · exact .inl ⟨p, z, h⟩
    · exact .inr ⟨p, z, h⟩
  · rintro (⟨p, hp, h⟩ | ⟨p, hp, h⟩)
    · exact ⟨p, List.mem_append_left _ hp, h⟩
    · exact ⟨p, List.mem_append_right _ hp, h⟩
theorem memI_one {p : Int × Int} {x : Int} : memI [p] x ↔ p.1 ≤ x ∧ x < p.2 := by
  constructor
  · rintro ⟨q, hq, h⟩; rw [List.mem_singleton.mp hq] at h; exact h
  · exact fun h => ⟨p, List.mem_singleton.mpr rfl, h⟩
theorem CanonI.nil : CanonI [] := ⟨fun _ z => (nomatch z), .nil⟩
theorem CanonI.tail {p : Int × Int} {R : List (Int × Int)} (c : CanonI (p :: R)) : CanonI R := ⟨fun q hq => c.ne q (List.mem_cons_of_mem _ hq), (List.pairwise_cons.mp c.gap).2⟩
theorem CanonI.low {p : Int × Int} {R : List (Int × Int)} (c : CanonI (p :: R)) {x : Int} (h : memI (p :: R) x) : p.1 ≤ x := by
  obtain ⟨q, hq, h1, h2⟩ := h
  rcases List.mem_cons.mp hq with rfl | hq
  · exact h1
  · have := (List.pairwise_cons.mp c.gap).1 q hq
    have := c.ne p List.mem_cons_self
    omega
theorem CanonI.high {p : Int × Int} {R : List (Int × Int)} (c : CanonI (p :: R)) {x : Int} (h : memI R x) : p.2 < x := by
  obtain ⟨q, hq, h1, h2⟩ := h
  have := (List.pairwise_cons.mp c.gap).1 q hq
  omega
theorem CanonI.head {p : Int × Int} {R : List (Int × Int)} (c : CanonI (p :: R)) : memI (p :: R) p.1 := ⟨p, List.mem_cons_self, Int.le_refl _, c.ne p List.mem_cons_self⟩
theorem canon_uniq : ∀ {R S : List (Int × Int)}, CanonI R → CanonI S → (∀ x, memI R x ↔ memI S x) → R = S
  | [], [], _, _, _ => rfl
  | [], p :: S, _, c, h => ((h p.1).mpr c.head).elim fun _ z => nomatch z.1
  | p :: R, [], c, _, h => ((h p.1).mp c.head).elim fun _ z => nomatch z.1
  | p :: R, q :: S, c, d, h => by
    have e1 : p.1 = q.1 := Int.le_antisymm (c.low ((h q.1).mpr d.head)) (d.low ((h p.1).mp c.head))
    have np := c.ne p List.mem_cons_self
    have nq := d.ne q List.mem_cons_self
    have e2 : p.2 = q.2 := by
      rcases Int.lt_trichotomy p.2 q.2 with z | z | z
      · have m : memI (p :: R) p.2 := (h p.2).mpr ⟨q, List.mem_cons_self, by omega, z⟩
        obtain ⟨r, hr, h1, h2⟩ := m
        rcases List.mem_cons.mp hr with rfl | hr
        · omega
        · have := (List.pairwise_cons.mp c.gap).1 r hr
          omega
      · exact z
      · have m : memI (q :: S) q.2 := (h q.2).mp ⟨p, List.mem_cons_self, by omega, z⟩
        obtain ⟨r, hr, h1, h2⟩ := m
        rcases List.mem_cons.mp hr with rfl | hr
        · omega
        · have := (List.pairwise_cons.mp d.gap).1 r hr
          omega
    have e : p = q := Prod.ext e1 e2
    subst e
    rw [canon_uniq c.tail d.tail fun x => ?_]
    constructor
    · intro m
      have hx := c.high m
      obtain ⟨r, hr, h1, h2⟩ := (h x).mp (by obtain ⟨r, hr, z⟩ := m; exact ⟨r, List.mem_cons_of_mem _ hr, z⟩)
      rcases List.mem_cons.mp hr with rfl | hr
      · omega
      · exact ⟨r, hr, h1, h2⟩
    · intro m
      have hx := d.high m
      obtain ⟨r, hr, h1, h2⟩ := (h x).mpr (by obtain ⟨r, hr, z⟩ := m; exact ⟨r, List.mem_cons_of_mem _ hr, z⟩)
      rcases List.mem_cons.mp hr with rfl | hr
      · omega
      · exact ⟨r, hr, h1, h2⟩
/-- one more, or the last one longer -/
theorem CanonI.push {R : List (Int × Int)} {p : Int × Int} (c : CanonI R) (hp : p.1 < p.2) (g : ∀ q ∈ R, q.2 < p.1) : CanonI (R ++ [p]) where
  ne := fun q hq => by
    rcases List.mem_append.mp hq with z | z
    · exact c.ne q z
    · rw [List.mem_singleton.mp z]; exact hp
  gap := List.pairwise_append.mpr ⟨c.gap, List.pairwise_singleton _ _, fun a ha b hb => by rw [List.mem_singleton.mp hb]; exact g a ha⟩
theorem CanonI.init {R : List (Int × Int)} {p : Int × Int} (c : CanonI (R ++ [p])) : CanonI R ∧ p.1 < p.2 ∧ ∀ q ∈ R, q.2 < p.1 := by
  obtain ⟨g1, g2, g3⟩ := List.pairwise_append.mp c.gap
  exact ⟨⟨fun q hq => c.ne q (List.mem_append_left _ hq), g1⟩, c.ne p (List.mem_append_right _ (List.mem_singleton.mpr rfl)), fun q hq => g3 q hq p (List.mem_singleton.mpr rfl)⟩
theorem CanonI.grow {R : List (Int × Int)} {a b e : Int} (c : CanonI (R ++ [(a, b)])) (h : b ≤ e) : CanonI (R ++ [(a, e)]) := by
  obtain ⟨c1, c2, c3⟩ := c.init
  exact c1.push (p := (a, e)) (by have : a < b := c2; show a < e; omega) c3
theorem nil_or_snoc {α : Type} (l : List α) : l = [] ∨ ∃ r x, l = r ++ [x] := by
  rcases List.eq_nil_or_concat l with h | ⟨r, x, h⟩
  · exact .inl h
  · exact .inr ⟨r, x, by rw [h, List.concat_eq_append]⟩
end DL

set_option Elab.async false
set_option linter.all false
set_option maxRecDepth 100000
namespace DL
open PySem PySem.Spec PyProof.Rows L2
abbrev pTop (i : Nat) : Stmt := PySem.Challenge.pw_sameshape_k76_kinds_of_contents.main.body.getD i (.Pass ⟨0, 0, 0, 0⟩)
def hCls : List Str := ["EmptyInterval"]
def hTb : Tb := { gints := [("MOST_ELEMENTS", 2000)], excs := [(0, "EmptyInterval")], efs := [], isx := [((0, "ShapeError"), true), ((0, "ValueError"), true)], exm := [((0, "EmptyInterval"), true)] }
def ckOf (N : List Str) (st : Stmt) (free : List Str) (fns : List (Nat × (Str × Nat))) (lam : Bool) : Ck := ⟨N, defScope st, (defScope st).names.filterMap fun p => if p.2 == .cell then some p.1 else none, free, fns, lam, hTb⟩
def dOf (x : Str) (st : Stmt) : He.DefD := ⟨(x, none), x, x, defArgs st, defBody st, defScope st, [], []⟩
-- _law_draw
def nN14 : List Str := ["_law_tape_here", "_law_many", "_law_place", "_law_number"]
def pP14 : List Str := ["_law_tape_here", "_law_many"]
def bB14 : ISs := (.cons (.iff (.cmp .eq (.ix (.var 0) (.int 2)) (.int 0)) (.cons (.set 2 (.ix (.var 0) (.int 1))) (.cons (.set 3 (.int 0)) (.cons (.iff (.cmp .lt (.var 2) (.bc .len (.cons (.ix (.var 0) (.int 0)) .nil))) (.cons (.set 3 (.bc .abs (.cons (.bc .int (.cons (.ix (.ix (.var 0) (.int 0)) (.var 2)) .nil)) .nil))) .nil) (.cons (.setix (.var 0) (.int 3) (.op2 .mod (.bc .int (.cons (.op2 .add (.op2 .add (.op2 .mul (.ix (.var 0) (.int 3)) (.int 48271)) (.var 2)) (.int 1)) .nil)) (.int 2147483647))) (.cons (.set 3 (.ix (.var 0) (.int 3))) .nil))) (.cons (.setix (.var 0) (.int 1) (.op2 .add (.var 2) (.int 1))) (.cons (.iff (.cmp .lt (.var 3) (.op2 .pow (.int 10) (.int 18))) (.cons (.set 3 (.op2 .mod (.bc .int (.cons (.op2 .add (.op2 .add (.op2 .mul (.var 3) (.int 48271)) (.op2 .mul (.var 2) (.int 69621))) (.int 5)) .nil)) (.int 2147483647))) (.cons (.set 3 (.op2 .mod (.bc .int (.cons (.op2 .mul (.var 3) (.int 69621)) .nil)) (.int 2147483629))) (.cons (.ret (.op2 .mod (.bc .int (.cons (.var 3) .nil)) (.bc .max2 (.cons (.var 1) (.cons (.int 1) .nil))))) .nil))) .nil) (.cons (.setix (.var 0) (.int 2) (.var 3)) .nil)))))) .nil) (.cons (.set 3 (.ix (.var 0) (.int 2))) (.cons (.setix (.var 0) (.int 2) (.op2 .div (.var 3) (.bc .max2 (.cons (.var 1) (.cons (.int 2) .nil))))) (.cons (.ret (.op2 .mod (.bc .int (.cons (.var 3) .nil)) (.bc .max2 (.cons (.var 1) (.cons (.int 1) .nil))))) .nil))))
def cC14 : Ck := ckOf nN14 (pTop 26) ["int", "max", "len", "abs"] [] false
theorem m14 : mSs cC14 bB14 (defBody (pTop 26)) = true := by decide +kernel
theorem s14 : fnScB nN14 pP14 (defScope (pTop 26)) = true := by decide +kernel
noncomputable def tT14 : Tab := fun i => match i with  | _ => fun _ _ => .bad
noncomputable def fF14 : Fn := runP tT14 bB14 4 2
-- _law_spoilt
def nN30 : List Str := ["_law_tape_here", "_law_contents_here", "_law_place", "_law_element_here", "_law_before", "_law_touching", "_law_strange", "_law_choice"]
def pP30 : List Str := ["_law_tape_here", "_law_contents_here"]
def bB30 : ISs := (.cons (.iff (.cmp .eq (.bc .len (.cons (.var 1) .nil)) (.int 0)) (.cons (.ret (.var 1)) .nil) .nil) (.cons (.set 2 (.call 14 (.cons (.var 0) (.cons (.bc .len (.cons (.var 1) .nil)) .nil)))) (.cons (.set 3 (.ix (.var 1) (.var 2))) (.cons (.set 4 (.ix (.var 1) (.bc .max2 (.cons (.op2 .sub (.var 2) (.int 1)) (.cons (.int 0) .nil))))) (.cons (.set 5 (.tup (.cons (.int 3) (.cons (.int 9) .nil)))) (.cons (.iff (.and (.cons (.isi (.var 4) .tup) (.cons (.isi (.ix (.var 4) (.int 1)) .int) .nil))) (.cons (.set 5 (.tup (.cons (.ix (.var 4) (.int 1)) (.cons (.bc .min2 (.cons (.op2 .add (.ix (.var 4) (.int 1)) (.int 9)) (.cons (.op2 .pow (.int 10) (.int 15)) .nil))) .nil)))) .nil) .nil) (.cons (.set 6 (.ix (.lst (.cons (.int 7) (.cons (.str "b") (.cons (.tup (.cons (.str "a") (.cons (.str "b") .nil))) (.cons (.tup (.cons (.int 5) (.cons (.int 5) .nil))) (.cons (.var 5) (.cons (.tup (.cons (.int 0) (.cons (.str "x") .nil))) (.cons (.var 4) .nil)))))))) (.call 14 (.cons (.var 0) (.cons (.int 7) .nil))))) (.cons (.set 7 (.call 14 (.cons (.var 0) (.cons (.int 3) .nil)))) (.cons (.iff (.cmp .eq (.var 7) (.int 0)) (.cons (.ret (.op2 .add (.op2 .add (.sl (.var 1) .no (.yes (.var 2))) (.tup (.cons (.var 6) .nil))) (.sl (.var 1) (.yes (.op2 .add (.var 2) (.int 1))) .no))) .nil) .nil) (.cons (.iff (.cmp .eq (.var 7) (.int 1)) (.cons (.ret (.op2 .add (.op2 .add (.sl (.var 1) .no (.yes (.var 2))) (.tup (.cons (.var 3) .nil))) (.sl (.var 1) (.yes (.var 2)) .no))) .nil) .nil) (.cons (.ret (.op2 .add (.op2 .add (.op2 .add (.sl (.var 1) .no (.yes (.var 2))) (.sl (.var 1) (.yes (.op2 .add (.var 2) (.int 1))) (.yes (.op2 .add (.var 2) (.int 2))))) (.tup (.cons (.var 3) .nil))) (.sl (.var 1) (.yes (.op2 .add (.var 2) (.int 2))) .no))) .nil)))))))))))
def cC30 : Ck := ckOf nN30 (pTop 42) ["isinstance", "int", "tuple", "min", "max", "len"] [(14, ("_law_draw", 2))] false
theorem m30 : mSs cC30 bB30 (defBody (pTop 42)) = true := by decide +kernel
theorem s30 : fnScB nN30 pP30 (defScope (pTop 42)) = true := by decide +kernel
noncomputable def tT30 : Tab := fun i => match i with | 14 => fF14 | _ => fun _ _ => .bad
noncomputable def fF30 : Fn := runP tT30 bB30 8 2
theorem tt30_14 : tT30 14 = fF14 := rfl
-- _law_alike
def nN15 : List Str := ["_law_told", "_law_due", "_law_k"]
def pP15 : List Str := ["_law_told", "_law_due"]
def bB15 : ISs := (.cons (.iff (.isi (.var 1) .tup) (.cons (.iff (.or (.cons (.nt (.isi (.var 0) .tup)) (.cons (.cmp .ne (.bc .len (.cons (.var 0) .nil)) (.bc .len (.cons (.var 1) .nil))) .nil))) (.cons (.ret (.bl false)) .nil) .nil) (.cons (.ret (.cmp .eq (.bc .len (.cons (.comp (.name 2) [2] (.rng1 (.bc .len (.cons (.var 1) .nil))) (.yes (.nt (.call 15 (.cons (.ix (.var 0) (.var 2)) (.cons (.ix (.var 1) (.var 2)) .nil))))) (.var 2)) .nil)) (.int 0))) .nil)) .nil) (.cons (.iff (.cmp .is (.var 1) .non) (.cons (.ret (.cmp .is (.var 0) .non)) .nil) .nil) (.cons (.iff (.isi (.var 1) .str) (.cons (.ret (.and (.cons (.isi (.var 0) .str) (.cons (.cmp .eq (.var 0) (.var 1)) .nil)))) .nil) .nil) (.cons (.ret (.and (.cons (.isi (.var 0) .int) (.cons (.cmp .eq (.isi (.var 0) .bl) (.isi (.var 1) .bl)) (.cons (.cmp .eq (.var 0) (.var 1)) .nil))))) .nil))))
def cC15 : Ck := ckOf nN15 (pTop 27) ["isinstance", "bool", "int", "str", "tuple", "len", "range"] [(15, ("_law_alike", 2))] false
theorem m15 : mSs cC15 bB15 (defBody (pTop 27)) = true := by decide +kernel
theorem s15 : fnScB nN15 pP15 (defScope (pTop 27)) = true := by decide +kernel
noncomputable def tT15 (F : Fn) : Tab := fun i => match i with | 15 => F  | _ => fun _ _ => .bad
noncomputable def fG15 : Nat → Fn
  | 0 => fun _ _ => .bad
  | n + 1 => runP (tT15 (fG15 n)) bB15 3 2
noncomputable def fF15 : Fn := fG15 8
theorem tt15_15 {F : Fn} : tT15 F 15 = F := rfl
-- _law_order
def nN20 : List Str := ["_law_scalar_here"]
def pP20 : List Str := ["_law_scalar_here"]
def bB20 : ISs := (.cons (.iff (.isi (.var 0) .str) (.cons (.ret (.tup (.cons (.int 1) (.cons (.int 0) (.cons (.var 0) .nil))))) .nil) .nil) (.cons (.ret (.tup (.cons (.int 0) (.cons (.var 0) (.cons (.str "") .nil))))) .nil))
def cC20 : Ck := ckOf nN20 (pTop 32) ["isinstance", "str"] [] false
theorem m20 : mSs cC20 bB20 (defBody (pTop 32)) = true := by decide +kernel
theorem s20 : fnScB nN20 pP20 (defScope (pTop 32)) = true := by decide +kernel
noncomputable def tT20 : Tab := fun i => match i with  | _ => fun _ _ => .bad
noncomputable def fF20 : Fn := runP tT20 bB20 1 1
-- _law_rising
def nN28 : List Str := ["_law_contents_here", "_law_kind", "_law_k", "_law_one", "_law_two"]
def pP28 : List Str := ["_law_contents_here", "_law_kind"]
def bB28 : ISs := (.cons (.forin (.name 2) (.rng1 (.op2 .sub (.bc .len (.cons (.var 0) .nil)) (.int 1))) (.cons (.set 3 (.ix (.var 0) (.var 2))) (.cons (.set 4 (.ix (.var 0) (.op2 .add (.var 2) (.int 1)))) (.cons (.iff (.and (.cons (.cmp .eq (.var 1) (.str "map")) (.cons (.nt (.cmp .lt (.call 20 (.cons (.ix (.var 3) (.int 0)) .nil)) (.call 20 (.cons (.ix (.var 4) (.int 0)) .nil)))) .nil))) (.cons (.ret (.bl false)) .nil) .nil) (.cons (.iff (.and (.cons (.cmp .eq (.var 1) (.str "queue")) (.cons (.cmp .gt (.ix (.var 3) (.int 0)) (.ix (.var 4) (.int 0))) .nil))) (.cons (.ret (.bl false)) .nil) .nil) (.cons (.iff (.and (.cons (.cmp .eq (.var 1) (.str "intervals")) (.cons (.cmp .ge (.ix (.var 3) (.int 1)) (.ix (.var 4) (.int 0))) .nil))) (.cons (.ret (.bl false)) .nil) .nil) .nil)))))) (.cons (.ret (.bl true)) .nil))
def cC28 : Ck := ckOf nN28 (pTop 40) ["range", "len"] [(20, ("_law_order", 1))] false
theorem m28 : mSs cC28 bB28 (defBody (pTop 40)) = true := by decide +kernel
theorem s28 : fnScB nN28 pP28 (defScope (pTop 40)) = true := by decide +kernel
noncomputable def tT28 : Tab := fun i => match i with | 20 => fF20 | _ => fun _ _ => .bad
noncomputable def fF28 : Fn := runP tT28 bB28 5 2
theorem tt28_20 : tT28 20 = fF20 := rfl
-- _law_fits
def nN29 : List Str := ["_law_contents_here", "_law_kind", "_law_element_here"]
def pP29 : List Str := ["_law_contents_here", "_law_kind"]
def bB29 : ISs := (.cons (.iff (.cmp .eq (.var 1) (.str "sequence")) (.cons (.ret (.bl true)) .nil) .nil) (.cons (.forin (.name 2) (.seq (.var 0)) (.cons (.iff (.nt (.isi (.var 2) .tup)) (.cons (.ret (.bl false)) .nil) .nil) (.cons (.iff (.and (.cons (.cmp .ne (.var 1) (.str "map")) (.cons (.nt (.isi (.ix (.var 2) (.int 0)) .int)) .nil))) (.cons (.ret (.bl false)) .nil) .nil) (.cons (.iff (.and (.cons (.cmp .eq (.var 1) (.str "intervals")) (.cons (.or (.cons (.nt (.isi (.ix (.var 2) (.int 1)) .int)) (.cons (.cmp .ge (.ix (.var 2) (.int 0)) (.ix (.var 2) (.int 1))) .nil))) .nil))) (.cons (.ret (.bl false)) .nil) .nil) .nil)))) (.cons (.ret (.call 28 (.cons (.var 0) (.cons (.var 1) .nil)))) .nil)))
def cC29 : Ck := ckOf nN29 (pTop 41) ["isinstance", "int", "tuple"] [(28, ("_law_rising", 2))] false
theorem m29 : mSs cC29 bB29 (defBody (pTop 41)) = true := by decide +kernel
theorem s29 : fnScB nN29 pP29 (defScope (pTop 41)) = true := by decide +kernel
noncomputable def tT29 : Tab := fun i => match i with | 28 => fF28 | _ => fun _ _ => .bad
noncomputable def fF29 : Fn := runP tT29 bB29 3 2
theorem tt29_28 : tT29 28 = fF28 := rfl
-- scalar_rank
def nN5 : List Str := ["scalar"]
def pP5 : List Str := ["scalar"]
def bB5 : ISs := (.cons (.iff (.isi (.var 0) .str) (.cons (.ret (.tup (.cons (.int 1) (.cons (.var 0) .nil)))) .nil) .nil) (.cons (.ret (.tup (.cons (.int 0) (.cons (.var 0) .nil)))) .nil))
def cC5 : Ck := ckOf nN5 (pTop 13) ["isinstance", "str"] [] false
theorem m5 : mSs cC5 bB5 (defBody (pTop 13)) = true := by decide +kernel
theorem s5 : fnScB nN5 pP5 (defScope (pTop 13)) = true := by decide +kernel
noncomputable def tT5 : Tab := fun i => match i with  | _ => fun _ _ => .bad
noncomputable def fF5 : Fn := runP tT5 bB5 1 1
-- entry_rank
def nN6 : List Str := ["entry"]
def pP6 : List Str := ["entry"]
def bB6 : ISs := (.cons (.ret (.call 5 (.cons (.ix (.var 0) (.int 0)) .nil))) .nil)
def cC6 : Ck := ckOf nN6 (pTop 15) [] [(5, ("scalar_rank", 1))] false
theorem m6 : mSs cC6 bB6 (defBody (pTop 15)) = true := by decide +kernel
theorem s6 : fnScB nN6 pP6 (defScope (pTop 15)) = true := by decide +kernel
noncomputable def tT6 : Tab := fun i => match i with | 5 => fF5 | _ => fun _ _ => .bad
noncomputable def fF6 : Fn := runP tT6 bB6 1 1
theorem tt6_5 : tT6 5 = fF5 := rfl
-- in_order
def nN11 : List Str := ["kind", "element", "after"]
def pP11 : List Str := ["kind", "element", "after"]
def bB11 : ISs := (.cons (.iff (.cmp .eq (.var 0) (.str "map")) (.cons (.ret (.cmp .lt (.call 6 (.cons (.var 1) .nil)) (.call 6 (.cons (.var 2) .nil)))) .nil) .nil) (.cons (.iff (.cmp .eq (.var 0) (.str "queue")) (.cons (.ret (.cmp .le (.ix (.var 1) (.int 0)) (.ix (.var 2) (.int 0)))) .nil) .nil) (.cons (.ret (.or (.cons (.cmp .eq (.var 0) (.str "sequence")) (.cons (.cmp .lt (.ix (.var 1) (.int 1)) (.ix (.var 2) (.int 0))) .nil)))) .nil)))
def cC11 : Ck := ckOf nN11 (pTop 22) [] [(6, ("entry_rank", 1))] false
theorem m11 : mSs cC11 bB11 (defBody (pTop 22)) = true := by decide +kernel
theorem s11 : fnScB nN11 pP11 (defScope (pTop 22)) = true := by decide +kernel
noncomputable def tT11 : Tab := fun i => match i with | 6 => fF6 | _ => fun _ _ => .bad
noncomputable def fF11 : Fn := runP tT11 bB11 3 3
theorem tt11_6 : tT11 6 = fF6 := rfl
-- fits
def nN10 : List Str := ["kind", "element", "first", "second"]
def pP10 : List Str := ["kind", "element"]
def bB10 : ISs := (.cons (.iff (.cmp .eq (.var 0) (.str "sequence")) (.cons (.ret (.bl true)) .nil) .nil) (.cons (.iff (.nt (.isi (.var 1) .tup)) (.cons (.ret (.bl false)) .nil) .nil) (.cons (.iff (.cmp .eq (.var 0) (.str "map")) (.cons (.ret (.bl true)) .nil) .nil) (.cons (.unp [2, 3] (.var 1)) (.cons (.iff (.cmp .eq (.var 0) (.str "queue")) (.cons (.ret (.isi (.var 2) .int)) .nil) .nil) (.cons (.ret (.and (.cons (.isi (.var 2) .int) (.cons (.isi (.var 3) .int) (.cons (.cmp .lt (.var 2) (.var 3)) .nil))))) .nil))))))
def cC10 : Ck := ckOf nN10 (pTop 21) ["isinstance", "int", "tuple"] [] false
theorem m10 : mSs cC10 bB10 (defBody (pTop 21)) = true := by decide +kernel
theorem s10 : fnScB nN10 pP10 (defScope (pTop 21)) = true := by decide +kernel
noncomputable def tT10 : Tab := fun i => match i with  | _ => fun _ _ => .bad
noncomputable def fF10 : Fn := runP tT10 bB10 4 2
-- is_valid
def nN12 : List Str := ["kind", "contents", "element", "after"]
def pP12 : List Str := ["kind", "contents"]
def bB12 : ISs := (.cons (.forin (.name 2) (.seq (.var 1)) (.cons (.iff (.nt (.call 10 (.cons (.var 0) (.cons (.var 2) .nil)))) (.cons (.ret (.bl false)) .nil) .nil) .nil)) (.cons (.forin (.tup [2, 3]) (.zip (.var 1) (.sl (.var 1) (.yes (.int 1)) .no)) (.cons (.iff (.nt (.call 11 (.cons (.var 0) (.cons (.var 2) (.cons (.var 3) .nil))))) (.cons (.ret (.bl false)) .nil) .nil) .nil)) (.cons (.ret (.bl true)) .nil)))
def cC12 : Ck := ckOf nN12 (pTop 23) ["zip"] [(11, ("in_order", 3)), (10, ("fits", 2))] false
theorem m12 : mSs cC12 bB12 (defBody (pTop 23)) = true := by decide +kernel
theorem s12 : fnScB nN12 pP12 (defScope (pTop 23)) = true := by decide +kernel
noncomputable def tT12 : Tab := fun i => match i with | 11 => fF11 | 10 => fF10 | _ => fun _ _ => .bad
noncomputable def fF12 : Fn := runP tT12 bB12 4 2
theorem tt12_11 : tT12 11 = fF11 := rfl
theorem tt12_10 : tT12 10 = fF10 := rfl
-- check_count
def nN0 : List Str := ["count"]
def pP0 : List Str := ["count"]
def bB0 : ISs := (.cons (.iff (.cmp .gt (.var 0) (.gint "MOST_ELEMENTS" 2000)) (.cons .never .nil) .nil) .nil)
def cC0 : Ck := ckOf nN0 (pTop 6) [] [] false
theorem m0 : mSs cC0 bB0 (defBody (pTop 6)) = true := by decide +kernel
theorem s0 : fnScB nN0 pP0 (defScope (pTop 6)) = true := by decide +kernel
noncomputable def tT0 : Tab := fun i => match i with  | _ => fun _ _ => .bad
noncomputable def fF0 : Fn := runP tT0 bB0 1 1
-- within_bounds
def nN1 : List Str := ["contents"]
def pP1 : List Str := ["contents"]
def bB1 : ISs := (.cons (.expr (.call 0 (.cons (.bc .len (.cons (.var 0) .nil)) .nil))) (.cons (.ret (.var 0)) .nil))
def cC1 : Ck := ckOf nN1 (pTop 7) ["len"] [(0, ("check_count", 1))] false
theorem m1 : mSs cC1 bB1 (defBody (pTop 7)) = true := by decide +kernel
theorem s1 : fnScB nN1 pP1 (defScope (pTop 7)) = true := by decide +kernel
noncomputable def tT1 : Tab := fun i => match i with | 0 => fF0 | _ => fun _ _ => .bad
noncomputable def fF1 : Fn := runP tT1 bB1 1 1
theorem tt1_0 : tT1 0 = fF0 := rfl
-- simplified
def nN2 : List Str := ["intervals", "found", "start", "end"]
def pP2 : List Str := ["intervals"]
def bB2 : ISs := (.cons (.set 1 (.lst .nil)) (.cons (.forin (.tup [2, 3]) (.seq (.bc .sorted (.cons (.var 0) .nil))) (.cons (.iff (.and (.cons (.var 1) (.cons (.cmp .le (.var 2) (.ix (.ix (.var 1) (.neg (.int 1))) (.int 1))) .nil))) (.cons (.setix (.var 1) (.neg (.int 1)) (.tup (.cons (.ix (.ix (.var 1) (.neg (.int 1))) (.int 0)) (.cons (.bc .max2 (.cons (.ix (.ix (.var 1) (.neg (.int 1))) (.int 1)) (.cons (.var 3) .nil))) .nil)))) .nil) (.cons (.expr (.mth .append (.var 1) (.cons (.tup (.cons (.var 2) (.cons (.var 3) .nil))) .nil))) .nil)) .nil)) (.cons (.ret (.bc .tuple (.cons (.var 1) .nil))) .nil)))
def cC2 : Ck := ckOf nN2 (pTop 9) ["tuple", "sorted", "max"] [] false
theorem m2 : mSs cC2 bB2 (defBody (pTop 9)) = true := by decide +kernel
theorem s2 : fnScB nN2 pP2 (defScope (pTop 9)) = true := by decide +kernel
noncomputable def tT2 : Tab := fun i => match i with  | _ => fun _ _ => .bad
noncomputable def fF2 : Fn := runP tT2 bB2 4 1
-- check_interval
def nN3 : List Str := ["start", "end"]
def pP3 : List Str := ["start", "end"]
def bB3 : ISs := (.cons (.iff (.cmp .ge (.var 0) (.var 1)) (.cons (.rais 0) .nil) .nil) .nil)
def cC3 : Ck := ckOf nN3 (pTop 10) [] [] false
theorem m3 : mSs cC3 bB3 (defBody (pTop 10)) = true := by decide +kernel
theorem s3 : fnScB nN3 pP3 (defScope (pTop 10)) = true := by decide +kernel
noncomputable def tT3 : Tab := fun i => match i with  | _ => fun _ _ => .bad
noncomputable def fF3 : Fn := runP tT3 bB3 2 2
-- intervals_of
def nN4 : List Str := ["intervals", "start", "end"]
def pP4 : List Str := ["intervals"]
def bB4 : ISs := (.cons (.forin (.tup [1, 2]) (.seq (.var 0)) (.cons (.expr (.call 3 (.cons (.var 1) (.cons (.var 2) .nil)))) .nil)) (.cons (.ret (.call 1 (.cons (.call 2 (.cons (.var 0) .nil)) .nil))) .nil))
def cC4 : Ck := ckOf nN4 (pTop 11) [] [(1, ("within_bounds", 1)), (2, ("simplified", 1)), (3, ("check_interval", 2))] false
theorem m4 : mSs cC4 bB4 (defBody (pTop 11)) = true := by decide +kernel
theorem s4 : fnScB nN4 pP4 (defScope (pTop 11)) = true := by decide +kernel
noncomputable def tT4 : Tab := fun i => match i with | 1 => fF1 | 2 => fF2 | 3 => fF3 | _ => fun _ _ => .bad
noncomputable def fF4 : Fn := runP tT4 bB4 3 1
theorem tt4_1 : tT4 1 = fF1 := rfl
theorem tt4_2 : tT4 2 = fF2 := rfl
theorem tt4_3 : tT4 3 = fF3 := rfl
-- queue_of
def nN8 : List Str := ["items"]
def pP8 : List Str := ["items"]
def bB8 : ISs := (.cons (.ret (.call 1 (.cons (.bc .tuple (.cons (.sortl (.var 0) (.ix (.var 0) (.int 0))) .nil)) .nil))) .nil)
def cC8 : Ck := ckOf nN8 (pTop 18) ["tuple", "sorted"] [(1, ("within_bounds", 1))] true
theorem m8 : mSs cC8 bB8 (defBody (pTop 18)) = true := by decide +kernel
theorem s8 : fnScB nN8 pP8 (defScope (pTop 18)) = true := by decide +kernel
noncomputable def tT8 : Tab := fun i => match i with | 1 => fF1 | _ => fun _ _ => .bad
noncomputable def fF8 : Fn := runP tT8 bB8 1 1
theorem tt8_1 : tT8 1 = fF1 := rfl
-- map_of
def nN7 : List Str := ["entries", "worth", "key", "value"]
def pP7 : List Str := ["entries"]
def bB7 : ISs := (.cons (.set 1 .dnew) (.cons (.forin (.tup [2, 3]) (.seq (.var 0)) (.cons (.setix (.var 1) (.var 2) (.var 3)) .nil)) (.cons (.ret (.call 1 (.cons (.bc .tuple (.cons (.sortk true (.var 1) 6) .nil)) .nil))) .nil)))
def cC7 : Ck := ckOf nN7 (pTop 16) ["tuple", "sorted"] [(1, ("within_bounds", 1)), (6, ("entry_rank", 1))] false
theorem m7 : mSs cC7 bB7 (defBody (pTop 16)) = true := by decide +kernel
theorem s7 : fnScB nN7 pP7 (defScope (pTop 16)) = true := by decide +kernel
noncomputable def tT7 : Tab := fun i => match i with | 1 => fF1 | 6 => fF6 | _ => fun _ _ => .bad
noncomputable def fF7 : Fn := runP tT7 bB7 4 1
theorem tt7_1 : tT7 1 = fF1 := rfl
theorem tt7_6 : tT7 6 = fF6 := rfl
-- contents_of
def nN9 : List Str := ["kind", "rows"]
def pP9 : List Str := ["kind", "rows"]
def bB9 : ISs := (.cons (.iff (.cmp .eq (.var 0) (.str "map")) (.cons (.ret (.call 7 (.cons (.var 1) .nil))) .nil) .nil) (.cons (.iff (.cmp .eq (.var 0) (.str "queue")) (.cons (.ret (.call 8 (.cons (.var 1) .nil))) .nil) .nil) (.cons (.iff (.cmp .eq (.var 0) (.str "intervals")) (.cons (.ret (.call 4 (.cons (.var 1) .nil))) .nil) .nil) (.cons (.ret (.var 1)) .nil))))
def cC9 : Ck := ckOf nN9 (pTop 20) [] [(4, ("intervals_of", 1)), (8, ("queue_of", 1)), (7, ("map_of", 1))] false
theorem m9 : mSs cC9 bB9 (defBody (pTop 20)) = true := by decide +kernel
theorem s9 : fnScB nN9 pP9 (defScope (pTop 20)) = true := by decide +kernel
noncomputable def tT9 : Tab := fun i => match i with | 4 => fF4 | 8 => fF8 | 7 => fF7 | _ => fun _ _ => .bad
noncomputable def fF9 : Fn := runP tT9 bB9 2 2
theorem tt9_4 : tT9 4 = fF4 := rfl
theorem tt9_8 : tT9 8 = fF8 := rfl
theorem tt9_7 : tT9 7 = fF7 := rfl
-- _law_contents_of
def nN31 : List Str := ["_law_kind", "_law_rows", "e"]
def pP31 : List Str := ["_law_kind", "_law_rows"]
def bB31 : ISs := (.cons (.tryx (.cons (.ret (.tup (.cons (.str "told") (.cons (.call 9 (.cons (.var 0) (.cons (.var 1) .nil))) .nil)))) .nil) [⟨"EmptyInterval", [(0, true)], (some 2), (.ret [(.str "empty"), (.and2 (.isi 2 "ShapeError" [(0, true)]) (.isi 2 "ValueError" [(0, true)]))])⟩]) .nil)
def cC31 : Ck := ckOf nN31 (pTop 43) ["isinstance"] [(9, ("contents_of", 2))] false
theorem m31 : mSs cC31 bB31 (defBody (pTop 43)) = true := by decide +kernel
theorem s31 : fnScB nN31 pP31 (defScope (pTop 43)) = true := by decide +kernel
noncomputable def tT31 : Tab := fun i => match i with | 9 => fF9 | _ => fun _ _ => .bad
noncomputable def fF31 : Fn := runP tT31 bB31 3 2
theorem tt31_9 : tT31 9 = fF9 := rfl
-- _law_joined_numbers
def nN27 : List Str := ["_law_numbers", "_law_found", "_law_number"]
def pP27 : List Str := ["_law_numbers"]
def bB27 : ISs := (.cons (.set 1 (.lst .nil)) (.cons (.forin (.name 2) (.seq (.bc .sorted (.cons (.bc .list (.cons (.var 0) .nil)) .nil))) (.cons (.iff (.and (.cons (.cmp .gt (.bc .len (.cons (.var 1) .nil)) (.int 0)) (.cons (.cmp .eq (.ix (.ix (.var 1) (.neg (.int 1))) (.int 1)) (.var 2)) .nil))) (.cons (.setix (.var 1) (.neg (.int 1)) (.tup (.cons (.ix (.ix (.var 1) (.neg (.int 1))) (.int 0)) (.cons (.op2 .add (.var 2) (.int 1)) .nil)))) .nil) (.cons (.expr (.mth .append (.var 1) (.cons (.tup (.cons (.var 2) (.cons (.op2 .add (.var 2) (.int 1)) .nil))) .nil))) .nil)) .nil)) (.cons (.ret (.bc .tuple (.cons (.var 1) .nil))) .nil)))
def cC27 : Ck := ckOf nN27 (pTop 39) ["tuple", "sorted", "list", "len"] [] false
theorem m27 : mSs cC27 bB27 (defBody (pTop 39)) = true := by decide +kernel
theorem s27 : fnScB nN27 pP27 (defScope (pTop 39)) = true := by decide +kernel
noncomputable def tT27 : Tab := fun i => match i with  | _ => fun _ _ => .bad
noncomputable def fF27 : Fn := runP tT27 bB27 3 1
-- _law_members
def nN26 : List Str := ["_law_intervals", "_law_members_here", "_law_interval", "_law_number"]
def pP26 : List Str := ["_law_intervals"]
def bB26 : ISs := (.cons (.set 1 .dnew) (.cons (.forin (.name 2) (.seq (.var 0)) (.cons (.forin (.name 3) (.rng2 (.ix (.var 2) (.int 0)) (.ix (.var 2) (.int 1))) (.cons (.setix (.var 1) (.var 3) (.bl true)) .nil)) .nil)) (.cons (.ret (.var 1)) .nil)))
def cC26 : Ck := ckOf nN26 (pTop 38) ["range"] [] false
theorem m26 : mSs cC26 bB26 (defBody (pTop 38)) = true := by decide +kernel
theorem s26 : fnScB nN26 pP26 (defScope (pTop 38)) = true := by decide +kernel
noncomputable def tT26 : Tab := fun i => match i with  | _ => fun _ _ => .bad
noncomputable def fF26 : Fn := runP tT26 bB26 4 1
-- _law_priority
def nN23 : List Str := ["_law_item"]
def pP23 : List Str := ["_law_item"]
def bB23 : ISs := (.cons (.ret (.ix (.var 0) (.int 0))) .nil)
def cC23 : Ck := ckOf nN23 (pTop 35) [] [] false
theorem m23 : mSs cC23 bB23 (defBody (pTop 35)) = true := by decide +kernel
theorem s23 : fnScB nN23 pP23 (defScope (pTop 35)) = true := by decide +kernel
noncomputable def tT23 : Tab := fun i => match i with  | _ => fun _ _ => .bad
noncomputable def fF23 : Fn := runP tT23 bB23 1 1
-- _law_entries
def nN22 : List Str := ["_law_table", "_law_key"]
def pP22 : List Str := ["_law_table"]
def bB22 : ISs := (.cons (.ret (.bc .tuple (.cons (.comp (.name 1) [1] (.seq (.sortk false (.bc .list (.cons (.var 0) .nil)) 20)) .no (.tup (.cons (.var 1) (.cons (.ix (.var 0) (.var 1)) .nil)))) .nil))) .nil)
def cC22 : Ck := ckOf nN22 (pTop 34) ["tuple", "sorted", "list"] [(20, ("_law_order", 1))] false
theorem m22 : mSs cC22 bB22 (defBody (pTop 34)) = true := by decide +kernel
theorem s22 : fnScB nN22 pP22 (defScope (pTop 34)) = true := by decide +kernel
noncomputable def tT22 : Tab := fun i => match i with | 20 => fF20 | _ => fun _ _ => .bad
noncomputable def fF22 : Fn := runP tT22 bB22 2 1
theorem tt22_20 : tT22 20 = fF20 := rfl
-- _law_drawn_intervals
def nN25 : List Str := ["_law_tape_here", "_law_low", "_law_most", "_law_found", "_law_k", "_law_start"]
def pP25 : List Str := ["_law_tape_here", "_law_low", "_law_most"]
def bB25 : ISs := (.cons (.set 3 (.lst .nil)) (.cons (.forin (.name 4) (.rng1 (.call 14 (.cons (.var 0) (.cons (.op2 .add (.var 2) (.int 1)) .nil)))) (.cons (.set 5 (.op2 .add (.var 1) (.call 14 (.cons (.var 0) (.cons (.int 60) .nil))))) (.cons (.expr (.mth .append (.var 3) (.cons (.tup (.cons (.var 5) (.cons (.bc .min2 (.cons (.op2 .add (.var 5) (.ix (.lst (.cons (.int 1) (.cons (.int 1) (.cons (.int 2) (.cons (.int 3) (.cons (.int 7) (.cons (.int 15) .nil))))))) (.call 14 (.cons (.var 0) (.cons (.int 6) .nil))))) (.cons (.op2 .add (.var 1) (.int 60)) .nil))) .nil))) .nil))) .nil))) (.cons (.ret (.var 3)) .nil)))
def cC25 : Ck := ckOf nN25 (pTop 37) ["range", "min"] [(14, ("_law_draw", 2))] false
theorem m25 : mSs cC25 bB25 (defBody (pTop 37)) = true := by decide +kernel
theorem s25 : fnScB nN25 pP25 (defScope (pTop 37)) = true := by decide +kernel
noncomputable def tT25 : Tab := fun i => match i with | 14 => fF14 | _ => fun _ _ => .bad
noncomputable def fF25 : Fn := runP tT25 bB25 6 3
theorem tt25_14 : tT25 14 = fF14 := rfl
-- _law_scalar
def nN16 : List Str := ["_law_tape_here", "_law_signs", "_law_share", "_law_number", "_law_text", "_law_k"]
def pP16 : List Str := ["_law_tape_here"]
def bB16 : ISs := (.cons (.set 1 (.str "abcdefghijklmnopqrstuvwxyzABCDEFGHIJKLMNOPQRSTUVWXYZ0123456789 !\"#$&'()*+,-./:;<=>?\x40[\\]^_`{|}~")) (.cons (.set 2 (.call 14 (.cons (.var 0) (.cons (.int 6) .nil)))) (.cons (.iff (.cmp .lt (.var 2) (.int 3)) (.cons (.ret (.op2 .sub (.call 14 (.cons (.var 0) (.cons (.int 9) .nil))) (.int 3))) .nil) .nil) (.cons (.iff (.cmp .eq (.var 2) (.int 3)) (.cons (.set 3 (.op2 .sub (.call 14 (.cons (.var 0) (.cons (.int 2000001) .nil))) (.int 1000000))) (.cons (.ret (.ix (.lst (.cons (.var 3) (.cons (.var 3) (.cons (.op2 .mul (.var 3) (.op2 .pow (.int 10) (.int 9))) (.cons (.op2 .pow (.int 10) (.int 15)) (.cons (.neg (.op2 .pow (.int 10) (.int 15))) .nil)))))) (.call 14 (.cons (.var 0) (.cons (.int 5) .nil))))) .nil)) .nil) (.cons (.set 4 (.ix (.lst (.cons (.str "") (.cons (.str "") (.cons (.str "9") (.cons (.str "same beginning") .nil))))) (.call 14 (.cons (.var 0) (.cons (.int 4) .nil))))) (.cons (.forin (.name 5) (.rng1 (.ix (.lst (.cons (.int 0) (.cons (.int 1) (.cons (.int 1) (.cons (.int 2) (.cons (.int 3) (.cons (.int 6) .nil))))))) (.call 14 (.cons (.var 0) (.cons (.int 6) .nil))))) (.cons (.set 4 (.op2 .add (.var 4) (.ix (.var 1) (.call 14 (.cons (.var 0) (.cons (.int 94) .nil)))))) .nil)) (.cons (.ret (.var 4)) .nil)))))))
def cC16 : Ck := ckOf nN16 (pTop 28) ["range"] [(14, ("_law_draw", 2))] false
theorem m16 : mSs cC16 bB16 (defBody (pTop 28)) = true := by decide +kernel
theorem s16 : fnScB nN16 pP16 (defScope (pTop 28)) = true := by decide +kernel
noncomputable def tT16 : Tab := fun i => match i with | 14 => fF14 | _ => fun _ _ => .bad
noncomputable def fF16 : Fn := runP tT16 bB16 6 1
theorem tt16_14 : tT16 14 = fF14 := rfl
-- _law_drawn_items
def nN24 : List Str := ["_law_tape_here", "_law_most", "_law_items", "_law_k", "_law_priority_here"]
def pP24 : List Str := ["_law_tape_here", "_law_most"]
def bB24 : ISs := (.cons (.set 2 (.lst .nil)) (.cons (.forin (.name 3) (.rng1 (.call 14 (.cons (.var 0) (.cons (.op2 .add (.var 1) (.int 1)) .nil)))) (.cons (.set 4 (.ix (.lst (.cons (.int 0) (.cons (.int 1) (.cons (.int 1) (.cons (.int 2) (.cons (.neg (.int 1)) (.cons (.op2 .pow (.int 10) (.int 15)) (.cons (.neg (.op2 .pow (.int 10) (.int 15))) .nil)))))))) (.call 14 (.cons (.var 0) (.cons (.int 7) .nil))))) (.cons (.expr (.mth .append (.var 2) (.cons (.tup (.cons (.var 4) (.cons (.call 16 (.cons (.var 0) .nil)) .nil))) .nil))) .nil))) (.cons (.ret (.var 2)) .nil)))
def cC24 : Ck := ckOf nN24 (pTop 36) ["range"] [(14, ("_law_draw", 2)), (16, ("_law_scalar", 1))] false
theorem m24 : mSs cC24 bB24 (defBody (pTop 36)) = true := by decide +kernel
theorem s24 : fnScB nN24 pP24 (defScope (pTop 36)) = true := by decide +kernel
noncomputable def tT24 : Tab := fun i => match i with | 14 => fF14 | 16 => fF16 | _ => fun _ _ => .bad
noncomputable def fF24 : Fn := runP tT24 bB24 5 2
theorem tt24_14 : tT24 14 = fF14 := rfl
theorem tt24_16 : tT24 16 = fF16 := rfl
-- _law_keys
def nN21 : List Str := ["_law_tape_here", "_law_keys_here", "_law_k", "_law_key"]
def pP21 : List Str := ["_law_tape_here"]
def bB21 : ISs := (.cons (.set 1 (.lst .nil)) (.cons (.forin (.name 2) (.rng1 (.op2 .add (.int 1) (.call 14 (.cons (.var 0) (.cons (.int 7) .nil))))) (.cons (.set 3 (.call 16 (.cons (.var 0) .nil))) (.cons (.iff (.cmp .notin (.var 3) (.var 1)) (.cons (.expr (.mth .append (.var 1) (.cons (.var 3) .nil))) .nil) .nil) .nil))) (.cons (.ret (.var 1)) .nil)))
def cC21 : Ck := ckOf nN21 (pTop 33) ["range"] [(14, ("_law_draw", 2)), (16, ("_law_scalar", 1))] false
theorem m21 : mSs cC21 bB21 (defBody (pTop 33)) = true := by decide +kernel
theorem s21 : fnScB nN21 pP21 (defScope (pTop 33)) = true := by decide +kernel
noncomputable def tT21 : Tab := fun i => match i with | 14 => fF14 | 16 => fF16 | _ => fun _ _ => .bad
noncomputable def fF21 : Fn := runP tT21 bB21 4 1
theorem tt21_14 : tT21 14 = fF14 := rfl
theorem tt21_16 : tT21 16 = fF16 := rfl
-- _law_contents
def nN19 : List Str := ["_law_tape_here", "_law_pool_here", "_law_most", "_law_size", "_law_shape", "_law_first", "_law_part", "_law_found", "_law_k", "_law_many", "_law_element_here"]
def pP19 : List Str := ["_law_tape_here", "_law_pool_here", "_law_most"]
def bB19 : ISs := (.cons (.set 3 (.call 14 (.cons (.var 0) (.cons (.op2 .add (.var 2) (.int 1)) .nil)))) (.cons (.iff (.cmp .eq (.call 14 (.cons (.var 0) (.cons (.int 4) .nil))) (.int 0)) (.cons (.set 3 (.ix (.lst (.cons (.int 0) (.cons (.int 1) (.cons (.int 2) (.cons (.var 2) .nil))))) (.call 14 (.cons (.var 0) (.cons (.int 4) .nil))))) .nil) .nil) (.cons (.set 4 (.call 14 (.cons (.var 0) (.cons (.int 4) .nil)))) (.cons (.set 5 (.call 14 (.cons (.var 0) (.cons (.int 40) .nil)))) (.cons (.iff (.cmp .eq (.var 4) (.int 0)) (.cons (.ret (.bc .tuple (.cons (.comp (.name 8) [8] (.rng1 (.var 3)) .no (.op2 .add (.var 5) (.var 8))) .nil))) .nil) .nil) (.cons (.iff (.cmp .eq (.var 4) (.int 1)) (.cons (.set 6 (.comp (.name 8) [8] (.rng1 (.op2 .add (.int 1) (.op2 .mod (.bc .int (.cons (.var 5) .nil)) (.int 4)))) .no (.ix (.var 1) (.call 14 (.cons (.var 0) (.cons (.bc .len (.cons (.var 1) .nil)) .nil)))))) (.cons (.ret (.bc .tuple (.cons (.comp (.name 8) [8] (.rng1 (.var 3)) .no (.ix (.var 6) (.op2 .mod (.bc .int (.cons (.var 8) .nil)) (.bc .len (.cons (.var 6) .nil))))) .nil))) .nil)) .nil) (.cons (.set 7 (.lst .nil)) (.cons (.forin (.name 8) (.rng1 (.var 3)) (.cons (.iff (.cmp .lt (.bc .len (.cons (.var 7) .nil)) (.var 3)) (.cons (.set 9 (.int 1)) (.cons (.iff (.cmp .eq (.var 4) (.int 2)) (.cons (.set 9 (.op2 .add (.int 1) (.call 14 (.cons (.var 0) (.cons (.int 4) .nil))))) .nil) .nil) (.cons (.set 10 (.ix (.var 1) (.call 14 (.cons (.var 0) (.cons (.bc .len (.cons (.var 1) .nil)) .nil))))) (.cons (.set 7 (.op2 .add (.var 7) (.op2 .mul (.lst (.cons (.var 10) .nil)) (.var 9)))) .nil)))) .nil) .nil)) (.cons (.ret (.bc .tuple (.cons (.sl (.var 7) .no (.yes (.var 3))) .nil))) .nil)))))))))
def cC19 : Ck := ckOf nN19 (pTop 31) ["tuple", "range", "len", "int"] [(14, ("_law_draw", 2))] false
theorem m19 : mSs cC19 bB19 (defBody (pTop 31)) = true := by decide +kernel
theorem s19 : fnScB nN19 pP19 (defScope (pTop 31)) = true := by decide +kernel
noncomputable def tT19 : Tab := fun i => match i with | 14 => fF14 | _ => fun _ _ => .bad
noncomputable def fF19 : Fn := runP tT19 bB19 11 3
theorem tt19_14 : tT19 14 = fF14 := rfl
-- _law_element
def nN17 : List Str := ["_law_tape_here", "_law_first"]
def pP17 : List Str := ["_law_tape_here"]
def bB17 : ISs := (.cons (.iff (.cmp .eq (.call 14 (.cons (.var 0) (.cons (.int 4) .nil))) (.int 0)) (.cons (.set 1 (.call 16 (.cons (.var 0) .nil))) (.cons (.ret (.tup (.cons (.var 1) (.cons (.call 16 (.cons (.var 0) .nil)) .nil)))) .nil)) .nil) (.cons (.ret (.call 16 (.cons (.var 0) .nil))) .nil))
def cC17 : Ck := ckOf nN17 (pTop 29) [] [(16, ("_law_scalar", 1)), (14, ("_law_draw", 2))] false
theorem m17 : mSs cC17 bB17 (defBody (pTop 29)) = true := by decide +kernel
theorem s17 : fnScB nN17 pP17 (defScope (pTop 29)) = true := by decide +kernel
noncomputable def tT17 : Tab := fun i => match i with | 16 => fF16 | 14 => fF14 | _ => fun _ _ => .bad
noncomputable def fF17 : Fn := runP tT17 bB17 2 1
theorem tt17_16 : tT17 16 = fF16 := rfl
theorem tt17_14 : tT17 14 = fF14 := rfl
-- _law_pool
def nN18 : List Str := ["_law_tape_here", "_law_k"]
def pP18 : List Str := ["_law_tape_here"]
def bB18 : ISs := (.cons (.ret (.comp (.name 1) [1] (.rng1 (.op2 .add (.int 1) (.call 14 (.cons (.var 0) (.cons (.int 6) .nil))))) .no (.call 17 (.cons (.var 0) .nil)))) .nil)
def cC18 : Ck := ckOf nN18 (pTop 30) ["range"] [(14, ("_law_draw", 2)), (17, ("_law_element", 1))] false
theorem m18 : mSs cC18 bB18 (defBody (pTop 30)) = true := by decide +kernel
theorem s18 : fnScB nN18 pP18 (defScope (pTop 30)) = true := by decide +kernel
noncomputable def tT18 : Tab := fun i => match i with | 14 => fF14 | 17 => fF17 | _ => fun _ _ => .bad
noncomputable def fF18 : Fn := runP tT18 bB18 2 1
theorem tt18_14 : tT18 14 = fF14 := rfl
theorem tt18_17 : tT18 17 = fF17 := rfl
-- _law_tape
def nN13 : List Str := ["_law_script", "_law_total", "_law_cell"]
def pP13 : List Str := ["_law_script"]
def bB13 : ISs := (.cons (.set 1 (.int 7)) (.cons (.forin (.name 2) (.seq (.var 0)) (.cons (.set 1 (.op2 .mod (.bc .int (.cons (.op2 .add (.op2 .mul (.var 1) (.int 31)) (.bc .abs (.cons (.bc .int (.cons (.var 2) .nil)) .nil))) .nil)) (.int 2147483647))) .nil)) (.cons (.ret (.lst (.cons (.bc .list (.cons (.var 0) .nil)) (.cons (.int 0) (.cons (.int 0) (.cons (.var 1) .nil)))))) .nil)))
def cC13 : Ck := ckOf nN13 (pTop 25) ["list", "int", "abs"] [] false
theorem m13 : mSs cC13 bB13 (defBody (pTop 25)) = true := by decide +kernel
theorem s13 : fnScB nN13 pP13 (defScope (pTop 25)) = true := by decide +kernel
noncomputable def tT13 : Tab := fun i => match i with  | _ => fun _ _ => .bad
noncomputable def fF13 : Fn := runP tT13 bB13 3 1
-- law
def nN32 : List Str := ["_law_script", "_law_tape_here", "_law_pool_here", "_law_rows", "_law_keys_here", "_law_entries_here", "_law_table", "_law_entry", "_law_items", "_law_drawn", "_law_made", "_law_told", "_law_contents_here", "_law_asked", "_law_due", "_law_k", "_law_kind"]
def pP32 : List Str := ["_law_script"]
def bB32 : ISs := (.cons (.set 1 (.call 13 (.cons (.var 0) .nil))) (.cons (.set 2 (.call 18 (.cons (.var 1) .nil))) (.cons (.set 3 (.call 19 (.cons (.var 1) (.cons (.var 2) (.cons (.int 9) .nil))))) (.cons (.iff (.nt (.call 15 (.cons (.call 31 (.cons (.str "sequence") (.cons (.var 3) .nil))) (.cons (.tup (.cons (.str "told") (.cons (.var 3) .nil))) .nil)))) (.cons (.ret (.bl false)) .nil) .nil) (.cons (.set 4 (.call 21 (.cons (.var 1) .nil))) (.cons (.setc 5 (.name 15) [15] (.rng1 (.call 14 (.cons (.var 1) (.cons (.int 9) .nil)))) .no (.tup (.cons (.ix (.var 4) (.call 14 (.cons (.var 1) (.cons (.bc .len (.cons (.var 4) .nil)) .nil)))) (.cons (.call 16 (.cons (.var 1) .nil)) .nil)))) (.cons (.set 6 .dnew) (.cons (.forin (.name 7) (.seq (.var 5)) (.cons (.setix (.var 6) (.ix (.var 7) (.int 0)) (.ix (.var 7) (.int 1))) .nil)) (.cons (.set 8 (.call 24 (.cons (.var 1) (.cons (.int 9) .nil)))) (.cons (.set 9 (.call 25 (.cons (.var 1) (.cons (.int 0) (.cons (.int 9) .nil))))) (.cons (.set 10 (.lst (.cons (.var 3) (.cons (.call 22 (.cons (.var 6) .nil)) (.cons (.bc .tuple (.cons (.sortk false (.var 8) 23) .nil)) (.cons (.call 27 (.cons (.call 26 (.cons (.var 9) .nil)) .nil)) .nil)))))) (.cons (.set 11 (.tup (.cons (.call 31 (.cons (.str "map") (.cons (.bc .tuple (.cons (.var 5) .nil)) .nil))) (.cons (.call 31 (.cons (.str "queue") (.cons (.bc .tuple (.cons (.var 8) .nil)) .nil))) .nil)))) (.cons (.iff (.nt (.call 15 (.cons (.var 11) (.cons (.tup (.cons (.tup (.cons (.str "told") (.cons (.ix (.var 10) (.int 1)) .nil))) (.cons (.tup (.cons (.str "told") (.cons (.ix (.var 10) (.int 2)) .nil))) .nil))) .nil)))) (.cons (.ret (.bl false)) .nil) .nil) (.cons (.iff (.nt (.call 15 (.cons (.call 31 (.cons (.str "intervals") (.cons (.bc .tuple (.cons (.var 9) .nil)) .nil))) (.cons (.tup (.cons (.str "told") (.cons (.ix (.var 10) (.int 3)) .nil))) .nil)))) (.cons (.ret (.bl false)) .nil) .nil) (.cons (.iff (.nt (.call 15 (.cons (.call 31 (.cons (.str "intervals") (.cons (.op2 .add (.bc .tuple (.cons (.var 9) .nil)) (.tup (.cons (.tup (.cons (.int 4) (.cons (.op2 .sub (.int 4) (.call 14 (.cons (.var 1) (.cons (.int 2) .nil)))) .nil))) .nil))) .nil))) (.cons (.tup (.cons (.str "empty") (.cons (.bl true) .nil))) .nil)))) (.cons (.ret (.bl false)) .nil) .nil) (.cons (.forin (.name 12) (.seq (.var 10)) (.cons (.forin (.name 13) (.seq (.lst (.cons (.var 12) (.cons (.call 30 (.cons (.var 1) (.cons (.var 12) .nil))) .nil)))) (.cons (.set 11 (.bc .tuple (.cons (.comp (.name 16) [16] (.seq (.lst (.cons (.str "sequence") (.cons (.str "map") (.cons (.str "queue") (.cons (.str "intervals") .nil)))))) .no (.call 12 (.cons (.var 16) (.cons (.var 13) .nil)))) .nil))) (.cons (.set 14 (.bc .tuple (.cons (.comp (.name 16) [16] (.seq (.lst (.cons (.str "sequence") (.cons (.str "map") (.cons (.str "queue") (.cons (.str "intervals") .nil)))))) .no (.call 29 (.cons (.var 13) (.cons (.var 16) .nil)))) .nil))) (.cons (.iff (.nt (.call 15 (.cons (.var 11) (.cons (.var 14) .nil)))) (.cons (.ret (.bl false)) .nil) .nil) .nil)))) .nil)) (.cons (.ret (.bl true)) .nil)))))))))))))))))
def cC32 : Ck := ckOf nN32 (pTop 44) ["tuple", "sorted", "range", "len"] [(30, ("_law_spoilt", 2)), (15, ("_law_alike", 2)), (29, ("_law_fits", 2)), (12, ("is_valid", 2)), (31, ("_law_contents_of", 2)), (14, ("_law_draw", 2)), (27, ("_law_joined_numbers", 1)), (26, ("_law_members", 1)), (23, ("_law_priority", 1)), (22, ("_law_entries", 1)), (25, ("_law_drawn_intervals", 3)), (24, ("_law_drawn_items", 2)), (16, ("_law_scalar", 1)), (21, ("_law_keys", 1)), (19, ("_law_contents", 3)), (18, ("_law_pool", 1)), (13, ("_law_tape", 1))] false
theorem m32 : mSs cC32 bB32 (defBody (pTop 44)) = true := by decide +kernel
theorem s32 : fnScB nN32 pP32 (defScope (pTop 44)) = true := by decide +kernel
noncomputable def tT32 : Tab := fun i => match i with | 30 => fF30 | 15 => fF15 | 29 => fF29 | 12 => fF12 | 31 => fF31 | 14 => fF14 | 27 => fF27 | 26 => fF26 | 23 => fF23 | 22 => fF22 | 25 => fF25 | 24 => fF24 | 16 => fF16 | 21 => fF21 | 19 => fF19 | 18 => fF18 | 13 => fF13 | _ => fun _ _ => .bad
noncomputable def fF32 : Fn := runP tT32 bB32 17 1
theorem tt32_30 : tT32 30 = fF30 := rfl
theorem tt32_15 : tT32 15 = fF15 := rfl
theorem tt32_29 : tT32 29 = fF29 := rfl
theorem tt32_12 : tT32 12 = fF12 := rfl
theorem tt32_31 : tT32 31 = fF31 := rfl
theorem tt32_14 : tT32 14 = fF14 := rfl
theorem tt32_27 : tT32 27 = fF27 := rfl
theorem tt32_26 : tT32 26 = fF26 := rfl
theorem tt32_23 : tT32 23 = fF23 := rfl
theorem tt32_22 : tT32 22 = fF22 := rfl
theorem tt32_25 : tT32 25 = fF25 := rfl
theorem tt32_24 : tT32 24 = fF24 := rfl
theorem tt32_16 : tT32 16 = fF16 := rfl
theorem tt32_21 : tT32 21 = fF21 := rfl
theorem tt32_19 : tT32 19 = fF19 := rfl
theorem tt32_18 : tT32 18 = fF18 := rfl
theorem tt32_13 : tT32 13 = fF13 := rfl
theorem fnsC30 {Fx : Str → Nat → Fn → Prop} {T : Tab} {f : Nat} {x : Str} {n : Nat} (z : cC30.fns.lookup f = some (x, n)) (a0 : Fx "_law_draw" 2 (T 14)) : Fx x n (T f) := by
  have z : List.lookup f [(14, (("_law_draw" : Str), 2))] = some (x, n) := z
  rw [List.lookup_cons] at z; by_cases e0 : f = 14
  · subst e0; simp only [beq_self_eq_true] at z; cases z; exact a0
  rw [beq_false_of_ne e0] at z; dsimp only at z
  cases z
theorem fnsC15 {Fx : Str → Nat → Fn → Prop} {T : Tab} {f : Nat} {x : Str} {n : Nat} (z : cC15.fns.lookup f = some (x, n)) (a0 : Fx "_law_alike" 2 (T 15)) : Fx x n (T f) := by
  have z : List.lookup f [(15, (("_law_alike" : Str), 2))] = some (x, n) := z
  rw [List.lookup_cons] at z; by_cases e0 : f = 15
  · subst e0; simp only [beq_self_eq_true] at z; cases z; exact a0
  rw [beq_false_of_ne e0] at z; dsimp only at z
  cases z
theorem fnsC28 {Fx : Str → Nat → Fn → Prop} {T : Tab} {f : Nat} {x : Str} {n : Nat} (z : cC28.fns.lookup f = some (x, n)) (a0 : Fx "_law_order" 1 (T 20)) : Fx x n (T f) := by
  have z : List.lookup f [(20, (("_law_order" : Str), 1))] = some (x, n) := z
  rw [List.lookup_cons] at z; by_cases e0 : f = 20
  · subst e0; simp only [beq_self_eq_true] at z; cases z; exact a0
  rw [beq_false_of_ne e0] at z; dsimp only at z
  cases z
theorem fnsC29 {Fx : Str → Nat → Fn → Prop} {T : Tab} {f : Nat} {x : Str} {n : Nat} (z : cC29.fns.lookup f = some (x, n)) (a0 : Fx "_law_rising" 2 (T 28)) : Fx x n (T f) := by
  have z : List.lookup f [(28, (("_law_rising" : Str), 2))] = some (x, n) := z
  rw [List.lookup_cons] at z; by_cases e0 : f = 28
  · subst e0; simp only [beq_self_eq_true] at z; cases z; exact a0
  rw [beq_false_of_ne e0] at z; dsimp only at z
  cases z
theorem fnsC6 {Fx : Str → Nat → Fn → Prop} {T : Tab} {f : Nat} {x : Str} {n : Nat} (z : cC6.fns.lookup f = some (x, n)) (a0 : Fx "scalar_rank" 1 (T 5)) : Fx x n (T f) := by
  have z : List.lookup f [(5, (("scalar_rank" : Str), 1))] = some (x, n) := z
  rw [List.lookup_cons] at z; by_cases e0 : f = 5
  · subst e0; simp only [beq_self_eq_true] at z; cases z; exact a0
  rw [beq_false_of_ne e0] at z; dsimp only at z
  cases z
theorem fnsC11 {Fx : Str → Nat → Fn → Prop} {T : Tab} {f : Nat} {x : Str} {n : Nat} (z : cC11.fns.lookup f = some (x, n)) (a0 : Fx "entry_rank" 1 (T 6)) : Fx x n (T f) := by
  have z : List.lookup f [(6, (("entry_rank" : Str), 1))] = some (x, n) := z
  rw [List.lookup_cons] at z; by_cases e0 : f = 6
  · subst e0; simp only [beq_self_eq_true] at z; cases z; exact a0
  rw [beq_false_of_ne e0] at z; dsimp only at z
  cases z
theorem fnsC12 {Fx : Str → Nat → Fn → Prop} {T : Tab} {f : Nat} {x : Str} {n : Nat} (z : cC12.fns.lookup f = some (x, n)) (a0 : Fx "in_order" 3 (T 11)) (a1 : Fx "fits" 2 (T 10)) : Fx x n (T f) := by
  have z : List.lookup f [(11, (("in_order" : Str), 3)), (10, (("fits" : Str), 2))] = some (x, n) := z
  rw [List.lookup_cons] at z; by_cases e0 : f = 11
  · subst e0; simp only [beq_self_eq_true] at z; cases z; exact a0
  rw [beq_false_of_ne e0] at z; dsimp only at z
  rw [List.lookup_cons] at z; by_cases e1 : f = 10
  · subst e1; simp only [beq_self_eq_true] at z; cases z; exact a1
  rw [beq_false_of_ne e1] at z; dsimp only at z
  cases z
theorem fnsC1 {Fx : Str → Nat → Fn → Prop} {T : Tab} {f : Nat} {x : Str} {n : Nat} (z : cC1.fns.lookup f = some (x, n)) (a0 : Fx "check_count" 1 (T 0)) : Fx x n (T f) := by
  have z : List.lookup f [(0, (("check_count" : Str), 1))] = some (x, n) := z
  rw [List.lookup_cons] at z; by_cases e0 : f = 0
  · subst e0; simp only [beq_self_eq_true] at z; cases z; exact a0
  rw [beq_false_of_ne e0] at z; dsimp only at z
  cases z
theorem fnsC4 {Fx : Str → Nat → Fn → Prop} {T : Tab} {f : Nat} {x : Str} {n : Nat} (z : cC4.fns.lookup f = some (x, n)) (a0 : Fx "within_bounds" 1 (T 1)) (a1 : Fx "simplified" 1 (T 2)) (a2 : Fx "check_interval" 2 (T 3)) : Fx x n (T f) := by
  have z : List.lookup f [(1, (("within_bounds" : Str), 1)), (2, (("simplified" : Str), 1)), (3, (("check_interval" : Str), 2))] = some (x, n) := z
  rw [List.lookup_cons] at z; by_cases e0 : f = 1
  · subst e0; simp only [beq_self_eq_true] at z; cases z; exact a0
  rw [beq_false_of_ne e0] at z; dsimp only at z
  rw [List.lookup_cons] at z; by_cases e1 : f = 2
  · subst e1; simp only [beq_self_eq_true] at z; cases z; exact a1
  rw [beq_false_of_ne e1] at z; dsimp only at z
  rw [List.lookup_cons] at z; by_cases e2 : f = 3
  · subst e2; simp only [beq_self_eq_true] at z; cases z; exact a2
  rw [beq_false_of_ne e2] at z; dsimp only at z
  cases z
theorem fnsC8 {Fx : Str → Nat → Fn → Prop} {T : Tab} {f : Nat} {x : Str} {n : Nat} (z : cC8.fns.lookup f = some (x, n)) (a0 : Fx "within_bounds" 1 (T 1)) : Fx x n (T f) := by
  have z : List.lookup f [(1, (("within_bounds" : Str), 1))] = some (x, n) := z
  rw [List.lookup_cons] at z; by_cases e0 : f = 1
  · subst e0; simp only [beq_self_eq_true] at z; cases z; exact a0
  rw [beq_false_of_ne e0] at z; dsimp only at z
  cases z
theorem fnsC7 {Fx : Str → Nat → Fn → Prop} {T : Tab} {f : Nat} {x : Str} {n : Nat} (z : cC7.fns.lookup f = some (x, n)) (a0 : Fx "within_bounds" 1 (T 1)) (a1 : Fx "entry_rank" 1 (T 6)) : Fx x n (T f) := by
  have z : List.lookup f [(1, (("within_bounds" : Str), 1)), (6, (("entry_rank" : Str), 1))] = some (x, n) := z
  rw [List.lookup_cons] at z; by_cases e0 : f = 1
  · subst e0; simp only [beq_self_eq_true] at z; cases z; exact a0
  rw [beq_false_of_ne e0] at z; dsimp only at z
  rw [List.lookup_cons] at z; by_cases e1 : f = 6
  · subst e1; simp only [beq_self_eq_true] at z; cases z; exact a1
  rw [beq_false_of_ne e1] at z; dsimp only at z
  cases z
theorem fnsC9 {Fx : Str → Nat → Fn → Prop} {T : Tab} {f : Nat} {x : Str} {n : Nat} (z : cC9.fns.lookup f = some (x, n)) (a0 : Fx "intervals_of" 1 (T 4)) (a1 : Fx "queue_of" 1 (T 8)) (a2 : Fx "map_of" 1 (T 7)) : Fx x n (T f) := by
  have z : List.lookup f [(4, (("intervals_of" : Str), 1)), (8, (("queue_of" : Str), 1)), (7, (("map_of" : Str), 1))] = some (x, n) := z
  rw [List.lookup_cons] at z; by_cases e0 : f = 4
  · subst e0; simp only [beq_self_eq_true] at z; cases z; exact a0
  rw [beq_false_of_ne e0] at z; dsimp only at z
  rw [List.lookup_cons] at z; by_cases e1 : f = 8
  · subst e1; simp only [beq_self_eq_true] at z; cases z; exact a1
  rw [beq_false_of_ne e1] at z; dsimp only at z
  rw [List.lookup_cons] at z; by_cases e2 : f = 7
  · subst e2; simp only [beq_self_eq_true] at z; cases z; exact a2
  rw [beq_false_of_ne e2] at z; dsimp only at z
  cases z
theorem fnsC31 {Fx : Str → Nat → Fn → Prop} {T : Tab} {f : Nat} {x : Str} {n : Nat} (z : cC31.fns.lookup f = some (x, n)) (a0 : Fx "contents_of" 2 (T 9)) : Fx x n (T f) := by
  have z : List.lookup f [(9, (("contents_of" : Str), 2))] = some (x, n) := z
  rw [List.lookup_cons] at z; by_cases e0 : f = 9
  · subst e0; simp only [beq_self_eq_true] at z; cases z; exact a0
  rw [beq_false_of_ne e0] at z; dsimp only at z
  cases z
theorem fnsC22 {Fx : Str → Nat → Fn → Prop} {T : Tab} {f : Nat} {x : Str} {n : Nat} (z : cC22.fns.lookup f = some (x, n)) (a0 : Fx "_law_order" 1 (T 20)) : Fx x n (T f) := by
  have z : List.lookup f [(20, (("_law_order" : Str), 1))] = some (x, n) := z
  rw [List.lookup_cons] at z; by_cases e0 : f = 20
  · subst e0; simp only [beq_self_eq_true] at z; cases z; exact a0
  rw [beq_false_of_ne e0] at z; dsimp only at z
  cases z
theorem fnsC25 {Fx : Str → Nat → Fn → Prop} {T : Tab} {f : Nat} {x : Str} {n : Nat} (z : cC25.fns.lookup f = some (x, n)) (a0 : Fx "_law_draw" 2 (T 14)) : Fx x n (T f) := by
  have z : List.lookup f [(14, (("_law_draw" : Str), 2))] = some (x, n) := z
  rw [List.lookup_cons] at z; by_cases e0 : f = 14
  · subst e0; simp only [beq_self_eq_true] at z; cases z; exact a0
  rw [beq_false_of_ne e0] at z; dsimp only at z
  cases z
theorem fnsC16 {Fx : Str → Nat → Fn → Prop} {T : Tab} {f : Nat} {x : Str} {n : Nat} (z : cC16.fns.lookup f = some (x, n)) (a0 : Fx "_law_draw" 2 (T 14)) : Fx x n (T f) := by
  have z : List.lookup f [(14, (("_law_draw" : Str), 2))] = some (x, n) := z
  rw [List.lookup_cons] at z; by_cases e0 : f = 14
  · subst e0; simp only [beq_self_eq_true] at z; cases z; exact a0
  rw [beq_false_of_ne e0] at z; dsimp only at z
  cases z
theorem fnsC24 {Fx : Str → Nat → Fn → Prop} {T : Tab} {f : Nat} {x : Str} {n : Nat} (z : cC24.fns.lookup f = some (x, n)) (a0 : Fx "_law_draw" 2 (T 14)) (a1 : Fx "_law_scalar" 1 (T 16)) : Fx x n (T f) := by
  have z : List.lookup f [(14, (("_law_draw" : Str), 2)), (16, (("_law_scalar" : Str), 1))] = some (x, n) := z
  rw [List.lookup_cons] at z; by_cases e0 : f = 14
  · subst e0; simp only [beq_self_eq_true] at z; cases z; exact a0
  rw [beq_false_of_ne e0] at z; dsimp only at z
  rw [List.lookup_cons] at z; by_cases e1 : f = 16
  · subst e1; simp only [beq_self_eq_true] at z; cases z; exact a1
  rw [beq_false_of_ne e1] at z; dsimp only at z
  cases z
theorem fnsC21 {Fx : Str → Nat → Fn → Prop} {T : Tab} {f : Nat} {x : Str} {n : Nat} (z : cC21.fns.lookup f = some (x, n)) (a0 : Fx "_law_draw" 2 (T 14)) (a1 : Fx "_law_scalar" 1 (T 16)) : Fx x n (T f) := by
  have z : List.lookup f [(14, (("_law_draw" : Str), 2)), (16, (("_law_scalar" : Str), 1))] = some (x, n) := z
  rw [List.lookup_cons] at z; by_cases e0 : f = 14
  · subst e0; simp only [beq_self_eq_true] at z; cases z; exact a0
  rw [beq_false_of_ne e0] at z; dsimp only at z
  rw [List.lookup_cons] at z; by_cases e1 : f = 16
  · subst e1; simp only [beq_self_eq_true] at z; cases z; exact a1
  rw [beq_false_of_ne e1] at z; dsimp only at z
  cases z
theorem fnsC19 {Fx : Str → Nat → Fn → Prop} {T : Tab} {f : Nat} {x : Str} {n : Nat} (z : cC19.fns.lookup f = some (x, n)) (a0 : Fx "_law_draw" 2 (T 14)) : Fx x n (T f) := by
  have z : List.lookup f [(14, (("_law_draw" : Str), 2))] = some (x, n) := z
  rw [List.lookup_cons] at z; by_cases e0 : f = 14
  · subst e0; simp only [beq_self_eq_true] at z; cases z; exact a0
  rw [beq_false_of_ne e0] at z; dsimp only at z
  cases z
theorem fnsC17 {Fx : Str → Nat → Fn → Prop} {T : Tab} {f : Nat} {x : Str} {n : Nat} (z : cC17.fns.lookup f = some (x, n)) (a0 : Fx "_law_scalar" 1 (T 16)) (a1 : Fx "_law_draw" 2 (T 14)) : Fx x n (T f) := by
  have z : List.lookup f [(16, (("_law_scalar" : Str), 1)), (14, (("_law_draw" : Str), 2))] = some (x, n) := z
  rw [List.lookup_cons] at z; by_cases e0 : f = 16
  · subst e0; simp only [beq_self_eq_true] at z; cases z; exact a0
  rw [beq_false_of_ne e0] at z; dsimp only at z
  rw [List.lookup_cons] at z; by_cases e1 : f = 14
  · subst e1; simp only [beq_self_eq_true] at z; cases z; exact a1
  rw [beq_false_of_ne e1] at z; dsimp only at z
  cases z
theorem fnsC18 {Fx : Str → Nat → Fn → Prop} {T : Tab} {f : Nat} {x : Str} {n : Nat} (z : cC18.fns.lookup f = some (x, n)) (a0 : Fx "_law_draw" 2 (T 14)) (a1 : Fx "_law_element" 1 (T 17)) : Fx x n (T f) := by
  have z : List.lookup f [(14, (("_law_draw" : Str), 2)), (17, (("_law_element" : Str), 1))] = some (x, n) := z
  rw [List.lookup_cons] at z; by_cases e0 : f = 14
  · subst e0; simp only [beq_self_eq_true] at z; cases z; exact a0
  rw [beq_false_of_ne e0] at z; dsimp only at z
  rw [List.lookup_cons] at z; by_cases e1 : f = 17
  · subst e1; simp only [beq_self_eq_true] at z; cases z; exact a1
  rw [beq_false_of_ne e1] at z; dsimp only at z
  cases z
theorem fnsC32 {Fx : Str → Nat → Fn → Prop} {T : Tab} {f : Nat} {x : Str} {n : Nat} (z : cC32.fns.lookup f = some (x, n)) (a0 : Fx "_law_spoilt" 2 (T 30)) (a1 : Fx "_law_alike" 2 (T 15)) (a2 : Fx "_law_fits" 2 (T 29)) (a3 : Fx "is_valid" 2 (T 12)) (a4 : Fx "_law_contents_of" 2 (T 31)) (a5 : Fx "_law_draw" 2 (T 14)) (a6 : Fx "_law_joined_numbers" 1 (T 27)) (a7 : Fx "_law_members" 1 (T 26)) (a8 : Fx "_law_priority" 1 (T 23)) (a9 : Fx "_law_entries" 1 (T 22)) (a10 : Fx "_law_drawn_intervals" 3 (T 25)) (a11 : Fx "_law_drawn_items" 2 (T 24)) (a12 : Fx "_law_scalar" 1 (T 16)) (a13 : Fx "_law_keys" 1 (T 21)) (a14 : Fx "_law_contents" 3 (T 19)) (a15 : Fx "_law_pool" 1 (T 18)) (a16 : Fx "_law_tape" 1 (T 13)) : Fx x n (T f) := by
  have z : List.lookup f [(30, (("_law_spoilt" : Str), 2)), (15, (("_law_alike" : Str), 2)), (29, (("_law_fits" : Str), 2)), (12, (("is_valid" : Str), 2)), (31, (("_law_contents_of" : Str), 2)), (14, (("_law_draw" : Str), 2)), (27, (("_law_joined_numbers" : Str), 1)), (26, (("_law_members" : Str), 1)), (23, (("_law_priority" : Str), 1)), (22, (("_law_entries" : Str), 1)), (25, (("_law_drawn_intervals" : Str), 3)), (24, (("_law_drawn_items" : Str), 2)), (16, (("_law_scalar" : Str), 1)), (21, (("_law_keys" : Str), 1)), (19, (("_law_contents" : Str), 3)), (18, (("_law_pool" : Str), 1)), (13, (("_law_tape" : Str), 1))] = some (x, n) := z
  rw [List.lookup_cons] at z; by_cases e0 : f = 30
  · subst e0; simp only [beq_self_eq_true] at z; cases z; exact a0
  rw [beq_false_of_ne e0] at z; dsimp only at z
  rw [List.lookup_cons] at z; by_cases e1 : f = 15
  · subst e1; simp only [beq_self_eq_true] at z; cases z; exact a1
  rw [beq_false_of_ne e1] at z; dsimp only at z
  rw [List.lookup_cons] at z; by_cases e2 : f = 29
  · subst e2; simp only [beq_self_eq_true] at z; cases z; exact a2
  rw [beq_false_of_ne e2] at z; dsimp only at z
  rw [List.lookup_cons] at z; by_cases e3 : f = 12
  · subst e3; simp only [beq_self_eq_true] at z; cases z; exact a3
  rw [beq_false_of_ne e3] at z; dsimp only at z
  rw [List.lookup_cons] at z; by_cases e4 : f = 31
  · subst e4; simp only [beq_self_eq_true] at z; cases z; exact a4
  rw [beq_false_of_ne e4] at z; dsimp only at z
  rw [List.lookup_cons] at z; by_cases e5 : f = 14
  · subst e5; simp only [beq_self_eq_true] at z; cases z; exact a5
  rw [beq_false_of_ne e5] at z; dsimp only at z
  rw [List.lookup_cons] at z; by_cases e6 : f = 27
  · subst e6; simp only [beq_self_eq_true] at z; cases z; exact a6
  rw [beq_false_of_ne e6] at z; dsimp only at z
  rw [List.lookup_cons] at z; by_cases e7 : f = 26
  · subst e7; simp only [beq_self_eq_true] at z; cases z; exact a7
  rw [beq_false_of_ne e7] at z; dsimp only at z
  rw [List.lookup_cons] at z; by_cases e8 : f = 23
  · subst e8; simp only [beq_self_eq_true] at z; cases z; exact a8
  rw [beq_false_of_ne e8] at z; dsimp only at z
  rw [List.lookup_cons] at z; by_cases e9 : f = 22
  · subst e9; simp only [beq_self_eq_true] at z; cases z; exact a9
  rw [beq_false_of_ne e9] at z; dsimp only at z
  rw [List.lookup_cons] at z; by_cases e10 : f = 25
  · subst e10; simp only [beq_self_eq_true] at z; cases z; exact a10
  rw [beq_false_of_ne e10] at z; dsimp only at z
  rw [List.lookup_cons] at z; by_cases e11 : f = 24
  · subst e11; simp only [beq_self_eq_true] at z; cases z; exact a11
  rw [beq_false_of_ne e11] at z; dsimp only at z
  rw [List.lookup_cons] at z; by_cases e12 : f = 16
  · subst e12; simp only [beq_self_eq_true] at z; cases z; exact a12
  rw [beq_false_of_ne e12] at z; dsimp only at z
  rw [List.lookup_cons] at z; by_cases e13 : f = 21
  · subst e13; simp only [beq_self_eq_true] at z; cases z; exact a13
  rw [beq_false_of_ne e13] at z; dsimp only at z
  rw [List.lookup_cons] at z; by_cases e14 : f = 19
  · subst e14; simp only [beq_self_eq_true] at z; cases z; exact a14
  rw [beq_false_of_ne e14] at z; dsimp only at z
  rw [List.lookup_cons] at z; by_cases e15 : f = 18
  · subst e15; simp only [beq_self_eq_true] at z; cases z; exact a15
  rw [beq_false_of_ne e15] at z; dsimp only at z
  rw [List.lookup_cons] at z; by_cases e16 : f = 13
  · subst e16; simp only [beq_self_eq_true] at z; cases z; exact a16
  rw [beq_false_of_ne e16] at z; dsimp only at z
  cases z
end DL

set_option Elab.async false
set_option linter.all false
set_option maxRecDepth 100000
set_option maxHeartbeats 0
namespace DL
open PySem PySem.Spec PyProof.Rows L2
def hDefs : List He.DefD := [dOf "_law_draw" (pTop 26), dOf "_law_spoilt" (pTop 42), dOf "_law_alike" (pTop 27), dOf "_law_order" (pTop 32), dOf "_law_rising" (pTop 40), dOf "_law_fits" (pTop 41), dOf "scalar_rank" (pTop 13), dOf "entry_rank" (pTop 15), dOf "in_order" (pTop 22), dOf "fits" (pTop 21), dOf "is_valid" (pTop 23), dOf "check_count" (pTop 6), dOf "within_bounds" (pTop 7), dOf "simplified" (pTop 9), dOf "check_interval" (pTop 10), dOf "intervals_of" (pTop 11), dOf "queue_of" (pTop 18), dOf "map_of" (pTop 16), dOf "contents_of" (pTop 20), dOf "_law_contents_of" (pTop 43), dOf "_law_joined_numbers" (pTop 39), dOf "_law_members" (pTop 38), dOf "_law_priority" (pTop 35), dOf "_law_entries" (pTop 34), dOf "_law_drawn_intervals" (pTop 37), dOf "_law_scalar" (pTop 28), dOf "_law_drawn_items" (pTop 36), dOf "_law_keys" (pTop 33), dOf "_law_contents" (pTop 31), dOf "_law_element" (pTop 29), dOf "_law_pool" (pTop 30), dOf "_law_tape" (pTop 25), dOf "law" (pTop 44)]
def hNames : List Str := [("_law_draw" : Str), ("_law_spoilt" : Str), ("_law_alike" : Str), ("_law_order" : Str), ("_law_rising" : Str), ("_law_fits" : Str), ("scalar_rank" : Str), ("entry_rank" : Str), ("in_order" : Str), ("fits" : Str), ("is_valid" : Str), ("check_count" : Str), ("within_bounds" : Str), ("simplified" : Str), ("check_interval" : Str), ("intervals_of" : Str), ("queue_of" : Str), ("map_of" : Str), ("contents_of" : Str), ("_law_contents_of" : Str), ("_law_joined_numbers" : Str), ("_law_members" : Str), ("_law_priority" : Str), ("_law_entries" : Str), ("_law_drawn_intervals" : Str), ("_law_scalar" : Str), ("_law_drawn_items" : Str), ("_law_keys" : Str), ("_law_contents" : Str), ("_law_element" : Str), ("_law_pool" : Str), ("_law_tape" : Str), ("law" : Str)]
def hFrees : List Str := ["int", "max", "len", "abs", "isinstance", "tuple", "min", "bool", "str", "range", "zip", "sorted", "list"]
def hTf : List He.Defn := [("queue_of", none)]
section
variable {P : Program} {w : World} {K : PySem.W.Frag} {mg : Str → Option Value} {base : Heap} {g : Gd}
theorem fk14 (F : HFacts hDefs hNames hFrees hTf K mg base g hTb) : FnD P w K mg base 4 g "_law_draw" 2 fF14 := by
  obtain ⟨fd, Fu⟩ := F.defs 0 _ rfl
  have Fu : FunD K "_law_draw" "_law_draw" (defArgs (pTop 26)) (defBody (pTop 26)) (defScope (pTop 26)) [] [] (He.ga K "_law_draw") fd := Fu
  have bd : Binds K fd pP14 [] := Fu.bindsN fun _ _ _ _ _ _ us hl => match us, hl with | [_, _], _ => rfl
  have a1 : cC14.lam = true → LamOk g base mg fd.code ("_law_draw" ++ ".<locals>.") (0) := (fun z => absurd z (by decide))
  have a2 : ∀ f x mm, cC14.fns.lookup f = some (x, mm) → FnD P w K mg base (0) g x mm (tT14 f) := (fun f x n z => nomatch (show (none : Option (Str × Nat)) = some (x, n) from z))
  have a3 : ∀ x, cC14.free.contains x = true → mg x = none := (fun x hx => F.fr x (frB (l := cC14.free) (by decide +kernel) x hx))
  have a4 : cC14.N = nN14 := rfl
  have a5 : cC14.sc = defScope (pTop 26) := rfl
  have a6 : mg "_law_draw" = some (.ref (He.ga K "_law_draw")) := F.glo _ (by decide +kernel)
  have a7 := fnScB_ok s14
  have a8 := fnD_run (P := P) (w := w) (base := base) (k := 0) (C := tT14) (body := bB14) Fu a6 bd a7 F.hK a4 a5 m14 a3 a1 F.gf a2
  exact a8
theorem fk30 (F : HFacts hDefs hNames hFrees hTf K mg base g hTb) : FnD P w K mg base 8 g "_law_spoilt" 2 fF30 := by
  obtain ⟨fd, Fu⟩ := F.defs 1 _ rfl
  have Fu : FunD K "_law_spoilt" "_law_spoilt" (defArgs (pTop 42)) (defBody (pTop 42)) (defScope (pTop 42)) [] [] (He.ga K "_law_spoilt") fd := Fu
  have bd : Binds K fd pP30 [] := Fu.bindsN fun _ _ _ _ _ _ us hl => match us, hl with | [_, _], _ => rfl
  have a1 : cC30.lam = true → LamOk g base mg fd.code ("_law_spoilt" ++ ".<locals>.") (4) := (fun z => absurd z (by decide))
  have a2 : ∀ f x mm, cC30.fns.lookup f = some (x, mm) → FnD P w K mg base (4) g x mm (tT30 f) := (fun f x mm z => fnsC30 (Fx := FnD P w K mg base 4 g) (T := tT30) z ((fk14 F).mono (by omega)))
  have a3 : ∀ x, cC30.free.contains x = true → mg x = none := (fun x hx => F.fr x (frB (l := cC30.free) (by decide +kernel) x hx))
  have a4 : cC30.N = nN30 := rfl
  have a5 : cC30.sc = defScope (pTop 42) := rfl
  have a6 : mg "_law_spoilt" = some (.ref (He.ga K "_law_spoilt")) := F.glo _ (by decide +kernel)
  have a7 := fnScB_ok s30
  have a8 := fnD_run (P := P) (w := w) (base := base) (k := 4) (C := tT30) (body := bB30) Fu a6 bd a7 F.hK a4 a5 m30 a3 a1 F.gf a2
  exact a8
theorem fk15 (F : HFacts hDefs hNames hFrees hTf K mg base g hTb) : FnD P w K mg base 33 g "_law_alike" 2 fF15 := by
  obtain ⟨fd, Fu⟩ := F.defs 2 _ rfl
  have Fu : FunD K "_law_alike" "_law_alike" (defArgs (pTop 27)) (defBody (pTop 27)) (defScope (pTop 27)) [] [] (He.ga K "_law_alike") fd := Fu
  have bd : Binds K fd pP15 [] := Fu.bindsN fun _ _ _ _ _ _ us hl => match us, hl with | [_, _], _ => rfl
  have q : ∀ n, FnD P w K mg base (0 + 1 + 4 * n) g "_law_alike" 2 (fG15 n) := by
    intro n
    induction n with
    | zero => exact fnD_zero Fu (F.glo _ (by decide +kernel)) bd (fnScB_ok s15) 0
    | succ n hR =>
      have a1 : cC15.lam = true → LamOk g base mg fd.code ("_law_alike" ++ ".<locals>.") ((0 + 1 + 4 * n)) := (fun z => absurd z (by decide))
      have a2 : ∀ f x mm, cC15.fns.lookup f = some (x, mm) → FnD P w K mg base ((0 + 1 + 4 * n)) g x mm ((tT15 (fG15 n)) f) := (fun f x mm z => fnsC15 (Fx := FnD P w K mg base (0 + 1 + 4 * n) g) (T := tT15 (fG15 n)) z (hR.mono (by omega)))
      have a3 : ∀ x, cC15.free.contains x = true → mg x = none := (fun x hx => F.fr x (frB (l := cC15.free) (by decide +kernel) x hx))
      have a4 : cC15.N = nN15 := rfl
      have a5 : cC15.sc = defScope (pTop 27) := rfl
      have a6 : mg "_law_alike" = some (.ref (He.ga K "_law_alike")) := F.glo _ (by decide +kernel)
      have a7 := fnScB_ok s15
      exact fnD_run (P := P) (w := w) (base := base) (k := (0 + 1 + 4 * n)) (C := (tT15 (fG15 n))) (body := bB15) Fu a6 bd a7 F.hK a4 a5 m15 a3 a1 F.gf a2
  exact (q 8).mono (by omega)
theorem fk20 (F : HFacts hDefs hNames hFrees hTf K mg base g hTb) : FnD P w K mg base 4 g "_law_order" 1 fF20 := by
  obtain ⟨fd, Fu⟩ := F.defs 3 _ rfl
  have Fu : FunD K "_law_order" "_law_order" (defArgs (pTop 32)) (defBody (pTop 32)) (defScope (pTop 32)) [] [] (He.ga K "_law_order") fd := Fu
  have bd : Binds K fd pP20 [] := Fu.bindsN fun _ _ _ _ _ _ us hl => match us, hl with | [_], _ => rfl
  have a1 : cC20.lam = true → LamOk g base mg fd.code ("_law_order" ++ ".<locals>.") (0) := (fun z => absurd z (by decide))
  have a2 : ∀ f x mm, cC20.fns.lookup f = some (x, mm) → FnD P w K mg base (0) g x mm (tT20 f) := (fun f x n z => nomatch (show (none : Option (Str × Nat)) = some (x, n) from z))
  have a3 : ∀ x, cC20.free.contains x = true → mg x = none := (fun x hx => F.fr x (frB (l := cC20.free) (by decide +kernel) x hx))
  have a4 : cC20.N = nN20 := rfl
  have a5 : cC20.sc = defScope (pTop 32) := rfl
  have a6 : mg "_law_order" = some (.ref (He.ga K "_law_order")) := F.glo _ (by decide +kernel)
  have a7 := fnScB_ok s20
  have a8 := fnD_run (P := P) (w := w) (base := base) (k := 0) (C := tT20) (body := bB20) Fu a6 bd a7 F.hK a4 a5 m20 a3 a1 F.gf a2
  exact a8
theorem fk28 (F : HFacts hDefs hNames hFrees hTf K mg base g hTb) : FnD P w K mg base 8 g "_law_rising" 2 fF28 := by
  obtain ⟨fd, Fu⟩ := F.defs 4 _ rfl
  have Fu : FunD K "_law_rising" "_law_rising" (defArgs (pTop 40)) (defBody (pTop 40)) (defScope (pTop 40)) [] [] (He.ga K "_law_rising") fd := Fu
  have bd : Binds K fd pP28 [] := Fu.bindsN fun _ _ _ _ _ _ us hl => match us, hl with | [_, _], _ => rfl
  have a1 : cC28.lam = true → LamOk g base mg fd.code ("_law_rising" ++ ".<locals>.") (4) := (fun z => absurd z (by decide))
  have a2 : ∀ f x mm, cC28.fns.lookup f = some (x, mm) → FnD P w K mg base (4) g x mm (tT28 f) := (fun f x mm z => fnsC28 (Fx := FnD P w K mg base 4 g) (T := tT28) z ((fk20 F).mono (by omega)))
  have a3 : ∀ x, cC28.free.contains x = true → mg x = none := (fun x hx => F.fr x (frB (l := cC28.free) (by decide +kernel) x hx))
  have a4 : cC28.N = nN28 := rfl
  have a5 : cC28.sc = defScope (pTop 40) := rfl
  have a6 : mg "_law_rising" = some (.ref (He.ga K "_law_rising")) := F.glo _ (by decide +kernel)
  have a7 := fnScB_ok s28
  have a8 := fnD_run (P := P) (w := w) (base := base) (k := 4) (C := tT28) (body := bB28) Fu a6 bd a7 F.hK a4 a5 m28 a3 a1 F.gf a2
  exact a8
theorem fk29 (F : HFacts hDefs hNames hFrees hTf K mg base g hTb) : FnD P w K mg base 12 g "_law_fits" 2 fF29 := by
  obtain ⟨fd, Fu⟩ := F.defs 5 _ rfl
  have Fu : FunD K "_law_fits" "_law_fits" (defArgs (pTop 41)) (defBody (pTop 41)) (defScope (pTop 41)) [] [] (He.ga K "_law_fits") fd := Fu
  have bd : Binds K fd pP29 [] := Fu.bindsN fun _ _ _ _ _ _ us hl => match us, hl with | [_, _], _ => rfl
  have a1 : cC29.lam = true → LamOk g base mg fd.code ("_law_fits" ++ ".<locals>.") (8) := (fun z => absurd z (by decide))
  have a2 : ∀ f x mm, cC29.fns.lookup f = some (x, mm) → FnD P w K mg base (8) g x mm (tT29 f) := (fun f x mm z => fnsC29 (Fx := FnD P w K mg base 8 g) (T := tT29) z ((fk28 F).mono (by omega)))
  have a3 : ∀ x, cC29.free.contains x = true → mg x = none := (fun x hx => F.fr x (frB (l := cC29.free) (by decide +kernel) x hx))
  have a4 : cC29.N = nN29 := rfl
  have a5 : cC29.sc = defScope (pTop 41) := rfl
  have a6 : mg "_law_fits" = some (.ref (He.ga K "_law_fits")) := F.glo _ (by decide +kernel)
  have a7 := fnScB_ok s29
  have a8 := fnD_run (P := P) (w := w) (base := base) (k := 8) (C := tT29) (body := bB29) Fu a6 bd a7 F.hK a4 a5 m29 a3 a1 F.gf a2
  exact a8
theorem fk5 (F : HFacts hDefs hNames hFrees hTf K mg base g hTb) : FnD P w K mg base 4 g "scalar_rank" 1 fF5 := by
  obtain ⟨fd, Fu⟩ := F.defs 6 _ rfl
  have Fu : FunD K "scalar_rank" "scalar_rank" (defArgs (pTop 13)) (defBody (pTop 13)) (defScope (pTop 13)) [] [] (He.ga K "scalar_rank") fd := Fu
  have bd : Binds K fd pP5 [] := Fu.bindsN fun _ _ _ _ _ _ us hl => match us, hl with | [_], _ => rfl
  have a1 : cC5.lam = true → LamOk g base mg fd.code ("scalar_rank" ++ ".<locals>.") (0) := (fun z => absurd z (by decide))
  have a2 : ∀ f x mm, cC5.fns.lookup f = some (x, mm) → FnD P w K mg base (0) g x mm (tT5 f) := (fun f x n z => nomatch (show (none : Option (Str × Nat)) = some (x, n) from z))
  have a3 : ∀ x, cC5.free.contains x = true → mg x = none := (fun x hx => F.fr x (frB (l := cC5.free) (by decide +kernel) x hx))
  have a4 : cC5.N = nN5 := rfl
  have a5 : cC5.sc = defScope (pTop 13) := rfl
  have a6 : mg "scalar_rank" = some (.ref (He.ga K "scalar_rank")) := F.glo _ (by decide +kernel)
  have a7 := fnScB_ok s5
  have a8 := fnD_run (P := P) (w := w) (base := base) (k := 0) (C := tT5) (body := bB5) Fu a6 bd a7 F.hK a4 a5 m5 a3 a1 F.gf a2
  exact a8
theorem fk6 (F : HFacts hDefs hNames hFrees hTf K mg base g hTb) : FnD P w K mg base 8 g "entry_rank" 1 fF6 := by
  obtain ⟨fd, Fu⟩ := F.defs 7 _ rfl
  have Fu : FunD K "entry_rank" "entry_rank" (defArgs (pTop 15)) (defBody (pTop 15)) (defScope (pTop 15)) [] [] (He.ga K "entry_rank") fd := Fu
  have bd : Binds K fd pP6 [] := Fu.bindsN fun _ _ _ _ _ _ us hl => match us, hl with | [_], _ => rfl
  have a1 : cC6.lam = true → LamOk g base mg fd.code ("entry_rank" ++ ".<locals>.") (4) := (fun z => absurd z (by decide))
  have a2 : ∀ f x mm, cC6.fns.lookup f = some (x, mm) → FnD P w K mg base (4) g x mm (tT6 f) := (fun f x mm z => fnsC6 (Fx := FnD P w K mg base 4 g) (T := tT6) z ((fk5 F).mono (by omega)))
  have a3 : ∀ x, cC6.free.contains x = true → mg x = none := (fun x hx => F.fr x (frB (l := cC6.free) (by decide +kernel) x hx))
  have a4 : cC6.N = nN6 := rfl
  have a5 : cC6.sc = defScope (pTop 15) := rfl
  have a6 : mg "entry_rank" = some (.ref (He.ga K "entry_rank")) := F.glo _ (by decide +kernel)
  have a7 := fnScB_ok s6
  have a8 := fnD_run (P := P) (w := w) (base := base) (k := 4) (C := tT6) (body := bB6) Fu a6 bd a7 F.hK a4 a5 m6 a3 a1 F.gf a2
  exact a8
theorem fk11 (F : HFacts hDefs hNames hFrees hTf K mg base g hTb) : FnD P w K mg base 12 g "in_order" 3 fF11 := by
  obtain ⟨fd, Fu⟩ := F.defs 8 _ rfl
  have Fu : FunD K "in_order" "in_order" (defArgs (pTop 22)) (defBody (pTop 22)) (defScope (pTop 22)) [] [] (He.ga K "in_order") fd := Fu
  have bd : Binds K fd pP11 [] := Fu.bindsN fun _ _ _ _ _ _ us hl => match us, hl with | [_, _, _], _ => rfl
  have a1 : cC11.lam = true → LamOk g base mg fd.code ("in_order" ++ ".<locals>.") (8) := (fun z => absurd z (by decide))
  have a2 : ∀ f x mm, cC11.fns.lookup f = some (x, mm) → FnD P w K mg base (8) g x mm (tT11 f) := (fun f x mm z => fnsC11 (Fx := FnD P w K mg base 8 g) (T := tT11) z ((fk6 F).mono (by omega)))
  have a3 : ∀ x, cC11.free.contains x = true → mg x = none := (fun x hx => F.fr x (frB (l := cC11.free) (by decide +kernel) x hx))
  have a4 : cC11.N = nN11 := rfl
  have a5 : cC11.sc = defScope (pTop 22) := rfl
  have a6 : mg "in_order" = some (.ref (He.ga K "in_order")) := F.glo _ (by decide +kernel)
  have a7 := fnScB_ok s11
  have a8 := fnD_run (P := P) (w := w) (base := base) (k := 8) (C := tT11) (body := bB11) Fu a6 bd a7 F.hK a4 a5 m11 a3 a1 F.gf a2
  exact a8
theorem fk10 (F : HFacts hDefs hNames hFrees hTf K mg base g hTb) : FnD P w K mg base 4 g "fits" 2 fF10 := by
  obtain ⟨fd, Fu⟩ := F.defs 9 _ rfl
  have Fu : FunD K "fits" "fits" (defArgs (pTop 21)) (defBody (pTop 21)) (defScope (pTop 21)) [] [] (He.ga K "fits") fd := Fu
  have bd : Binds K fd pP10 [] := Fu.bindsN fun _ _ _ _ _ _ us hl => match us, hl with | [_, _], _ => rfl
  have a1 : cC10.lam = true → LamOk g base mg fd.code ("fits" ++ ".<locals>.") (0) := (fun z => absurd z (by decide))
  have a2 : ∀ f x mm, cC10.fns.lookup f = some (x, mm) → FnD P w K mg base (0) g x mm (tT10 f) := (fun f x n z => nomatch (show (none : Option (Str × Nat)) = some (x, n) from z))
  have a3 : ∀ x, cC10.free.contains x = true → mg x = none := (fun x hx => F.fr x (frB (l := cC10.free) (by decide +kernel) x hx))
  have a4 : cC10.N = nN10 := rfl
  have a5 : cC10.sc = defScope (pTop 21) := rfl
  have a6 : mg "fits" = some (.ref (He.ga K "fits")) := F.glo _ (by decide +kernel)
  have a7 := fnScB_ok s10
  have a8 := fnD_run (P := P) (w := w) (base := base) (k := 0) (C := tT10) (body := bB10) Fu a6 bd a7 F.hK a4 a5 m10 a3 a1 F.gf a2
  exact a8
theorem fk12 (F : HFacts hDefs hNames hFrees hTf K mg base g hTb) : FnD P w K mg base 16 g "is_valid" 2 fF12 := by
  obtain ⟨fd, Fu⟩ := F.defs 10 _ rfl
  have Fu : FunD K "is_valid" "is_valid" (defArgs (pTop 23)) (defBody (pTop 23)) (defScope (pTop 23)) [] [] (He.ga K "is_valid") fd := Fu
  have bd : Binds K fd pP12 [] := Fu.bindsN fun _ _ _ _ _ _ us hl => match us, hl with | [_, _], _ => rfl
  have a1 : cC12.lam = true → LamOk g base mg fd.code ("is_valid" ++ ".<locals>.") (12) := (fun z => absurd z (by decide))
  have a2 : ∀ f x mm, cC12.fns.lookup f = some (x, mm) → FnD P w K mg base (12) g x mm (tT12 f) := (fun f x mm z => fnsC12 (Fx := FnD P w K mg base 12 g) (T := tT12) z ((fk11 F).mono (by omega)) ((fk10 F).mono (by omega)))
  have a3 : ∀ x, cC12.free.contains x = true → mg x = none := (fun x hx => F.fr x (frB (l := cC12.free) (by decide +kernel) x hx))
  have a4 : cC12.N = nN12 := rfl
  have a5 : cC12.sc = defScope (pTop 23) := rfl
  have a6 : mg "is_valid" = some (.ref (He.ga K "is_valid")) := F.glo _ (by decide +kernel)
  have a7 := fnScB_ok s12
  have a8 := fnD_run (P := P) (w := w) (base := base) (k := 12) (C := tT12) (body := bB12) Fu a6 bd a7 F.hK a4 a5 m12 a3 a1 F.gf a2
  exact a8
theorem fk0 (F : HFacts hDefs hNames hFrees hTf K mg base g hTb) : FnD P w K mg base 4 g "check_count" 1 fF0 := by
  obtain ⟨fd, Fu⟩ := F.defs 11 _ rfl
  have Fu : FunD K "check_count" "check_count" (defArgs (pTop 6)) (defBody (pTop 6)) (defScope (pTop 6)) [] [] (He.ga K "check_count") fd := Fu
  have bd : Binds K fd pP0 [] := Fu.bindsN fun _ _ _ _ _ _ us hl => match us, hl with | [_], _ => rfl
  have a1 : cC0.lam = true → LamOk g base mg fd.code ("check_count" ++ ".<locals>.") (0) := (fun z => absurd z (by decide))
  have a2 : ∀ f x mm, cC0.fns.lookup f = some (x, mm) → FnD P w K mg base (0) g x mm (tT0 f) := (fun f x n z => nomatch (show (none : Option (Str × Nat)) = some (x, n) from z))
  have a3 : ∀ x, cC0.free.contains x = true → mg x = none := (fun x hx => F.fr x (frB (l := cC0.free) (by decide +kernel) x hx))
  have a4 : cC0.N = nN0 := rfl
  have a5 : cC0.sc = defScope (pTop 6) := rfl
  have a6 : mg "check_count" = some (.ref (He.ga K "check_count")) := F.glo _ (by decide +kernel)
  have a7 := fnScB_ok s0
  have a8 := fnD_run (P := P) (w := w) (base := base) (k := 0) (C := tT0) (body := bB0) Fu a6 bd a7 F.hK a4 a5 m0 a3 a1 F.gf a2
  exact a8
theorem fk1 (F : HFacts hDefs hNames hFrees hTf K mg base g hTb) : FnD P w K mg base 8 g "within_bounds" 1 fF1 := by
  obtain ⟨fd, Fu⟩ := F.defs 12 _ rfl
  have Fu : FunD K "within_bounds" "within_bounds" (defArgs (pTop 7)) (defBody (pTop 7)) (defScope (pTop 7)) [] [] (He.ga K "within_bounds") fd := Fu
  have bd : Binds K fd pP1 [] := Fu.bindsN fun _ _ _ _ _ _ us hl => match us, hl with | [_], _ => rfl
  have a1 : cC1.lam = true → LamOk g base mg fd.code ("within_bounds" ++ ".<locals>.") (4) := (fun z => absurd z (by decide))
  have a2 : ∀ f x mm, cC1.fns.lookup f = some (x, mm) → FnD P w K mg base (4) g x mm (tT1 f) := (fun f x mm z => fnsC1 (Fx := FnD P w K mg base 4 g) (T := tT1) z ((fk0 F).mono (by omega)))
  have a3 : ∀ x, cC1.free.contains x = true → mg x = none := (fun x hx => F.fr x (frB (l := cC1.free) (by decide +kernel) x hx))
  have a4 : cC1.N = nN1 := rfl
  have a5 : cC1.sc = defScope (pTop 7) := rfl
  have a6 : mg "within_bounds" = some (.ref (He.ga K "within_bounds")) := F.glo _ (by decide +kernel)
  have a7 := fnScB_ok s1
  have a8 := fnD_run (P := P) (w := w) (base := base) (k := 4) (C := tT1) (body := bB1) Fu a6 bd a7 F.hK a4 a5 m1 a3 a1 F.gf a2
  exact a8
theorem fk2 (F : HFacts hDefs hNames hFrees hTf K mg base g hTb) : FnD P w K mg base 4 g "simplified" 1 fF2 := by
  obtain ⟨fd, Fu⟩ := F.defs 13 _ rfl
  have Fu : FunD K "simplified" "simplified" (defArgs (pTop 9)) (defBody (pTop 9)) (defScope (pTop 9)) [] [] (He.ga K "simplified") fd := Fu
  have bd : Binds K fd pP2 [] := Fu.bindsN fun _ _ _ _ _ _ us hl => match us, hl with | [_], _ => rfl
  have a1 : cC2.lam = true → LamOk g base mg fd.code ("simplified" ++ ".<locals>.") (0) := (fun z => absurd z (by decide))
  have a2 : ∀ f x mm, cC2.fns.lookup f = some (x, mm) → FnD P w K mg base (0) g x mm (tT2 f) := (fun f x n z => nomatch (show (none : Option (Str × Nat)) = some (x, n) from z))
  have a3 : ∀ x, cC2.free.contains x = true → mg x = none := (fun x hx => F.fr x (frB (l := cC2.free) (by decide +kernel) x hx))
  have a4 : cC2.N = nN2 := rfl
  have a5 : cC2.sc = defScope (pTop 9) := rfl
  have a6 : mg "simplified" = some (.ref (He.ga K "simplified")) := F.glo _ (by decide +kernel)
  have a7 := fnScB_ok s2
  have a8 := fnD_run (P := P) (w := w) (base := base) (k := 0) (C := tT2) (body := bB2) Fu a6 bd a7 F.hK a4 a5 m2 a3 a1 F.gf a2
  exact a8
theorem fk3 (F : HFacts hDefs hNames hFrees hTf K mg base g hTb) : FnD P w K mg base 4 g "check_interval" 2 fF3 := by
  obtain ⟨fd, Fu⟩ := F.defs 14 _ rfl
  have Fu : FunD K "check_interval" "check_interval" (defArgs (pTop 10)) (defBody (pTop 10)) (defScope (pTop 10)) [] [] (He.ga K "check_interval") fd := Fu
  have bd : Binds K fd pP3 [] := Fu.bindsN fun _ _ _ _ _ _ us hl => match us, hl with | [_, _], _ => rfl
  have a1 : cC3.lam = true → LamOk g base mg fd.code ("check_interval" ++ ".<locals>.") (0) := (fun z => absurd z (by decide))
  have a2 : ∀ f x mm, cC3.fns.lookup f = some (x, mm) → FnD P w K mg base (0) g x mm (tT3 f) := (fun f x n z => nomatch (show (none : Option (Str × Nat)) = some (x, n) from z))
  have a3 : ∀ x, cC3.free.contains x = true → mg x = none := (fun x hx => F.fr x (frB (l := cC3.free) (by decide +kernel) x hx))
  have a4 : cC3.N = nN3 := rfl
  have a5 : cC3.sc = defScope (pTop 10) := rfl
  have a6 : mg "check_interval" = some (.ref (He.ga K "check_interval")) := F.glo _ (by decide +kernel)
  have a7 := fnScB_ok s3
  have a8 := fnD_run (P := P) (w := w) (base := base) (k := 0) (C := tT3) (body := bB3) Fu a6 bd a7 F.hK a4 a5 m3 a3 a1 F.gf a2
  exact a8
theorem fk4 (F : HFacts hDefs hNames hFrees hTf K mg base g hTb) : FnD P w K mg base 12 g "intervals_of" 1 fF4 := by
  obtain ⟨fd, Fu⟩ := F.defs 15 _ rfl
  have Fu : FunD K "intervals_of" "intervals_of" (defArgs (pTop 11)) (defBody (pTop 11)) (defScope (pTop 11)) [] [] (He.ga K "intervals_of") fd := Fu
  have bd : Binds K fd pP4 [] := Fu.bindsN fun _ _ _ _ _ _ us hl => match us, hl with | [_], _ => rfl
  have a1 : cC4.lam = true → LamOk g base mg fd.code ("intervals_of" ++ ".<locals>.") (8) := (fun z => absurd z (by decide))
  have a2 : ∀ f x mm, cC4.fns.lookup f = some (x, mm) → FnD P w K mg base (8) g x mm (tT4 f) := (fun f x mm z => fnsC4 (Fx := FnD P w K mg base 8 g) (T := tT4) z ((fk1 F).mono (by omega)) ((fk2 F).mono (by omega)) ((fk3 F).mono (by omega)))
  have a3 : ∀ x, cC4.free.contains x = true → mg x = none := (fun x hx => F.fr x (frB (l := cC4.free) (by decide +kernel) x hx))
  have a4 : cC4.N = nN4 := rfl
  have a5 : cC4.sc = defScope (pTop 11) := rfl
  have a6 : mg "intervals_of" = some (.ref (He.ga K "intervals_of")) := F.glo _ (by decide +kernel)
  have a7 := fnScB_ok s4
  have a8 := fnD_run (P := P) (w := w) (base := base) (k := 8) (C := tT4) (body := bB4) Fu a6 bd a7 F.hK a4 a5 m4 a3 a1 F.gf a2
  exact a8
theorem fk8 (F : HFacts hDefs hNames hFrees hTf K mg base g hTb) : FnD P w K mg base 12 g "queue_of" 1 fF8 := by
  obtain ⟨fd, Fu⟩ := F.defs 16 _ rfl
  have Fu : FunD K "queue_of" "queue_of" (defArgs (pTop 18)) (defBody (pTop 18)) (defScope (pTop 18)) [] [] (He.ga K "queue_of") fd := Fu
  have bd : Binds K fd pP8 [] := Fu.bindsN fun _ _ _ _ _ _ us hl => match us, hl with | [_], _ => rfl
  have a1 : cC8.lam = true → LamOk g base mg fd.code ("queue_of" ++ ".<locals>.") (8) := (fun _ => F.lam Fu (by decide +kernel) (by omega))
  have a2 : ∀ f x mm, cC8.fns.lookup f = some (x, mm) → FnD P w K mg base (8) g x mm (tT8 f) := (fun f x mm z => fnsC8 (Fx := FnD P w K mg base 8 g) (T := tT8) z ((fk1 F).mono (by omega)))
  have a3 : ∀ x, cC8.free.contains x = true → mg x = none := (fun x hx => F.fr x (frB (l := cC8.free) (by decide +kernel) x hx))
  have a4 : cC8.N = nN8 := rfl
  have a5 : cC8.sc = defScope (pTop 18) := rfl
  have a6 : mg "queue_of" = some (.ref (He.ga K "queue_of")) := F.glo _ (by decide +kernel)
  have a7 := fnScB_ok s8
  have a8 := fnD_run (P := P) (w := w) (base := base) (k := 8) (C := tT8) (body := bB8) Fu a6 bd a7 F.hK a4 a5 m8 a3 a1 F.gf a2
  exact a8
theorem fk7 (F : HFacts hDefs hNames hFrees hTf K mg base g hTb) : FnD P w K mg base 12 g "map_of" 1 fF7 := by
  obtain ⟨fd, Fu⟩ := F.defs 17 _ rfl
  have Fu : FunD K "map_of" "map_of" (defArgs (pTop 16)) (defBody (pTop 16)) (defScope (pTop 16)) [] [] (He.ga K "map_of") fd := Fu
  have bd : Binds K fd pP7 [] := Fu.bindsN fun _ _ _ _ _ _ us hl => match us, hl with | [_], _ => rfl
  have a1 : cC7.lam = true → LamOk g base mg fd.code ("map_of" ++ ".<locals>.") (8) := (fun z => absurd z (by decide))
  have a2 : ∀ f x mm, cC7.fns.lookup f = some (x, mm) → FnD P w K mg base (8) g x mm (tT7 f) := (fun f x mm z => fnsC7 (Fx := FnD P w K mg base 8 g) (T := tT7) z ((fk1 F).mono (by omega)) ((fk6 F).mono (by omega)))
  have a3 : ∀ x, cC7.free.contains x = true → mg x = none := (fun x hx => F.fr x (frB (l := cC7.free) (by decide +kernel) x hx))
  have a4 : cC7.N = nN7 := rfl
  have a5 : cC7.sc = defScope (pTop 16) := rfl
  have a6 : mg "map_of" = some (.ref (He.ga K "map_of")) := F.glo _ (by decide +kernel)
  have a7 := fnScB_ok s7
  have a8 := fnD_run (P := P) (w := w) (base := base) (k := 8) (C := tT7) (body := bB7) Fu a6 bd a7 F.hK a4 a5 m7 a3 a1 F.gf a2
  exact a8
theorem fk9 (F : HFacts hDefs hNames hFrees hTf K mg base g hTb) : FnD P w K mg base 16 g "contents_of" 2 fF9 := by
  obtain ⟨fd, Fu⟩ := F.defs 18 _ rfl
  have Fu : FunD K "contents_of" "contents_of" (defArgs (pTop 20)) (defBody (pTop 20)) (defScope (pTop 20)) [] [] (He.ga K "contents_of") fd := Fu
  have bd : Binds K fd pP9 [] := Fu.bindsN fun _ _ _ _ _ _ us hl => match us, hl with | [_, _], _ => rfl
  have a1 : cC9.lam = true → LamOk g base mg fd.code ("contents_of" ++ ".<locals>.") (12) := (fun z => absurd z (by decide))
  have a2 : ∀ f x mm, cC9.fns.lookup f = some (x, mm) → FnD P w K mg base (12) g x mm (tT9 f) := (fun f x mm z => fnsC9 (Fx := FnD P w K mg base 12 g) (T := tT9) z ((fk4 F).mono (by omega)) ((fk8 F).mono (by omega)) ((fk7 F).mono (by omega)))
  have a3 : ∀ x, cC9.free.contains x = true → mg x = none := (fun x hx => F.fr x (frB (l := cC9.free) (by decide +kernel) x hx))
  have a4 : cC9.N = nN9 := rfl
  have a5 : cC9.sc = defScope (pTop 20) := rfl
  have a6 : mg "contents_of" = some (.ref (He.ga K "contents_of")) := F.glo _ (by decide +kernel)
  have a7 := fnScB_ok s9
  have a8 := fnD_run (P := P) (w := w) (base := base) (k := 12) (C := tT9) (body := bB9) Fu a6 bd a7 F.hK a4 a5 m9 a3 a1 F.gf a2
  exact a8
theorem fk31 (F : HFacts hDefs hNames hFrees hTf K mg base g hTb) : FnD P w K mg base 20 g "_law_contents_of" 2 fF31 := by
  obtain ⟨fd, Fu⟩ := F.defs 19 _ rfl
  have Fu : FunD K "_law_contents_of" "_law_contents_of" (defArgs (pTop 43)) (defBody (pTop 43)) (defScope (pTop 43)) [] [] (He.ga K "_law_contents_of") fd := Fu
  have bd : Binds K fd pP31 [] := Fu.bindsN fun _ _ _ _ _ _ us hl => match us, hl with | [_, _], _ => rfl
  have a1 : cC31.lam = true → LamOk g base mg fd.code ("_law_contents_of" ++ ".<locals>.") (16) := (fun z => absurd z (by decide))
  have a2 : ∀ f x mm, cC31.fns.lookup f = some (x, mm) → FnD P w K mg base (16) g x mm (tT31 f) := (fun f x mm z => fnsC31 (Fx := FnD P w K mg base 16 g) (T := tT31) z ((fk9 F).mono (by omega)))
  have a3 : ∀ x, cC31.free.contains x = true → mg x = none := (fun x hx => F.fr x (frB (l := cC31.free) (by decide +kernel) x hx))
  have a4 : cC31.N = nN31 := rfl
  have a5 : cC31.sc = defScope (pTop 43) := rfl
  have a6 : mg "_law_contents_of" = some (.ref (He.ga K "_law_contents_of")) := F.glo _ (by decide +kernel)
  have a7 := fnScB_ok s31
  have a8 := fnD_run (P := P) (w := w) (base := base) (k := 16) (C := tT31) (body := bB31) Fu a6 bd a7 F.hK a4 a5 m31 a3 a1 F.gf a2
  exact a8
theorem fk27 (F : HFacts hDefs hNames hFrees hTf K mg base g hTb) : FnD P w K mg base 4 g "_law_joined_numbers" 1 fF27 := by
  obtain ⟨fd, Fu⟩ := F.defs 20 _ rfl
  have Fu : FunD K "_law_joined_numbers" "_law_joined_numbers" (defArgs (pTop 39)) (defBody (pTop 39)) (defScope (pTop 39)) [] [] (He.ga K "_law_joined_numbers") fd := Fu
  have bd : Binds K fd pP27 [] := Fu.bindsN fun _ _ _ _ _ _ us hl => match us, hl with | [_], _ => rfl
  have a1 : cC27.lam = true → LamOk g base mg fd.code ("_law_joined_numbers" ++ ".<locals>.") (0) := (fun z => absurd z (by decide))
  have a2 : ∀ f x mm, cC27.fns.lookup f = some (x, mm) → FnD P w K mg base (0) g x mm (tT27 f) := (fun f x n z => nomatch (show (none : Option (Str × Nat)) = some (x, n) from z))
  have a3 : ∀ x, cC27.free.contains x = true → mg x = none := (fun x hx => F.fr x (frB (l := cC27.free) (by decide +kernel) x hx))
  have a4 : cC27.N = nN27 := rfl
  have a5 : cC27.sc = defScope (pTop 39) := rfl
  have a6 : mg "_law_joined_numbers" = some (.ref (He.ga K "_law_joined_numbers")) := F.glo _ (by decide +kernel)
  have a7 := fnScB_ok s27
  have a8 := fnD_run (P := P) (w := w) (base := base) (k := 0) (C := tT27) (body := bB27) Fu a6 bd a7 F.hK a4 a5 m27 a3 a1 F.gf a2
  exact a8
theorem fk26 (F : HFacts hDefs hNames hFrees hTf K mg base g hTb) : FnD P w K mg base 4 g "_law_members" 1 fF26 := by
  obtain ⟨fd, Fu⟩ := F.defs 21 _ rfl
  have Fu : FunD K "_law_members" "_law_members" (defArgs (pTop 38)) (defBody (pTop 38)) (defScope (pTop 38)) [] [] (He.ga K "_law_members") fd := Fu
  have bd : Binds K fd pP26 [] := Fu.bindsN fun _ _ _ _ _ _ us hl => match us, hl with | [_], _ => rfl
  have a1 : cC26.lam = true → LamOk g base mg fd.code ("_law_members" ++ ".<locals>.") (0) := (fun z => absurd z (by decide))
  have a2 : ∀ f x mm, cC26.fns.lookup f = some (x, mm) → FnD P w K mg base (0) g x mm (tT26 f) := (fun f x n z => nomatch (show (none : Option (Str × Nat)) = some (x, n) from z))
  have a3 : ∀ x, cC26.free.contains x = true → mg x = none := (fun x hx => F.fr x (frB (l := cC26.free) (by decide +kernel) x hx))
  have a4 : cC26.N = nN26 := rfl
  have a5 : cC26.sc = defScope (pTop 38) := rfl
  have a6 : mg "_law_members" = some (.ref (He.ga K "_law_members")) := F.glo _ (by decide +kernel)
  have a7 := fnScB_ok s26
  have a8 := fnD_run (P := P) (w := w) (base := base) (k := 0) (C := tT26) (body := bB26) Fu a6 bd a7 F.hK a4 a5 m26 a3 a1 F.gf a2
  exact a8
theorem fk23 (F : HFacts hDefs hNames hFrees hTf K mg base g hTb) : FnD P w K mg base 4 g "_law_priority" 1 fF23 := by
  obtain ⟨fd, Fu⟩ := F.defs 22 _ rfl
  have Fu : FunD K "_law_priority" "_law_priority" (defArgs (pTop 35)) (defBody (pTop 35)) (defScope (pTop 35)) [] [] (He.ga K "_law_priority") fd := Fu
  have bd : Binds K fd pP23 [] := Fu.bindsN fun _ _ _ _ _ _ us hl => match us, hl with | [_], _ => rfl
  have a1 : cC23.lam = true → LamOk g base mg fd.code ("_law_priority" ++ ".<locals>.") (0) := (fun z => absurd z (by decide))
  have a2 : ∀ f x mm, cC23.fns.lookup f = some (x, mm) → FnD P w K mg base (0) g x mm (tT23 f) := (fun f x n z => nomatch (show (none : Option (Str × Nat)) = some (x, n) from z))
  have a3 : ∀ x, cC23.free.contains x = true → mg x = none := (fun x hx => F.fr x (frB (l := cC23.free) (by decide +kernel) x hx))
  have a4 : cC23.N = nN23 := rfl
  have a5 : cC23.sc = defScope (pTop 35) := rfl
  have a6 : mg "_law_priority" = some (.ref (He.ga K "_law_priority")) := F.glo _ (by decide +kernel)
  have a7 := fnScB_ok s23
  have a8 := fnD_run (P := P) (w := w) (base := base) (k := 0) (C := tT23) (body := bB23) Fu a6 bd a7 F.hK a4 a5 m23 a3 a1 F.gf a2
  exact a8
theorem fk22 (F : HFacts hDefs hNames hFrees hTf K mg base g hTb) : FnD P w K mg base 8 g "_law_entries" 1 fF22 := by
  obtain ⟨fd, Fu⟩ := F.defs 23 _ rfl
  have Fu : FunD K "_law_entries" "_law_entries" (defArgs (pTop 34)) (defBody (pTop 34)) (defScope (pTop 34)) [] [] (He.ga K "_law_entries") fd := Fu
  have bd : Binds K fd pP22 [] := Fu.bindsN fun _ _ _ _ _ _ us hl => match us, hl with | [_], _ => rfl
  have a1 : cC22.lam = true → LamOk g base mg fd.code ("_law_entries" ++ ".<locals>.") (4) := (fun z => absurd z (by decide))
  have a2 : ∀ f x mm, cC22.fns.lookup f = some (x, mm) → FnD P w K mg base (4) g x mm (tT22 f) := (fun f x mm z => fnsC22 (Fx := FnD P w K mg base 4 g) (T := tT22) z ((fk20 F).mono (by omega)))
  have a3 : ∀ x, cC22.free.contains x = true → mg x = none := (fun x hx => F.fr x (frB (l := cC22.free) (by decide +kernel) x hx))
  have a4 : cC22.N = nN22 := rfl
  have a5 : cC22.sc = defScope (pTop 34) := rfl
  have a6 : mg "_law_entries" = some (.ref (He.ga K "_law_entries")) := F.glo _ (by decide +kernel)
  have a7 := fnScB_ok s22
  have a8 := fnD_run (P := P) (w := w) (base := base) (k := 4) (C := tT22) (body := bB22) Fu a6 bd a7 F.hK a4 a5 m22 a3 a1 F.gf a2
  exact a8
theorem fk25 (F : HFacts hDefs hNames hFrees hTf K mg base g hTb) : FnD P w K mg base 8 g "_law_drawn_intervals" 3 fF25 := by
  obtain ⟨fd, Fu⟩ := F.defs 24 _ rfl
  have Fu : FunD K "_law_drawn_intervals" "_law_drawn_intervals" (defArgs (pTop 37)) (defBody (pTop 37)) (defScope (pTop 37)) [] [] (He.ga K "_law_drawn_intervals") fd := Fu
  have bd : Binds K fd pP25 [] := Fu.bindsN fun _ _ _ _ _ _ us hl => match us, hl with | [_, _, _], _ => rfl
  have a1 : cC25.lam = true → LamOk g base mg fd.code ("_law_drawn_intervals" ++ ".<locals>.") (4) := (fun z => absurd z (by decide))
  have a2 : ∀ f x mm, cC25.fns.lookup f = some (x, mm) → FnD P w K mg base (4) g x mm (tT25 f) := (fun f x mm z => fnsC25 (Fx := FnD P w K mg base 4 g) (T := tT25) z ((fk14 F).mono (by omega)))
  have a3 : ∀ x, cC25.free.contains x = true → mg x = none := (fun x hx => F.fr x (frB (l := cC25.free) (by decide +kernel) x hx))
  have a4 : cC25.N = nN25 := rfl
  have a5 : cC25.sc = defScope (pTop 37) := rfl
  have a6 : mg "_law_drawn_intervals" = some (.ref (He.ga K "_law_drawn_intervals")) := F.glo _ (by decide +kernel)
  have a7 := fnScB_ok s25
  have a8 := fnD_run (P := P) (w := w) (base := base) (k := 4) (C := tT25) (body := bB25) Fu a6 bd a7 F.hK a4 a5 m25 a3 a1 F.gf a2
  exact a8
theorem fk16 (F : HFacts hDefs hNames hFrees hTf K mg base g hTb) : FnD P w K mg base 8 g "_law_scalar" 1 fF16 := by
  obtain ⟨fd, Fu⟩ := F.defs 25 _ rfl
  have Fu : FunD K "_law_scalar" "_law_scalar" (defArgs (pTop 28)) (defBody (pTop 28)) (defScope (pTop 28)) [] [] (He.ga K "_law_scalar") fd := Fu
  have bd : Binds K fd pP16 [] := Fu.bindsN fun _ _ _ _ _ _ us hl => match us, hl with | [_], _ => rfl
  have a1 : cC16.lam = true → LamOk g base mg fd.code ("_law_scalar" ++ ".<locals>.") (4) := (fun z => absurd z (by decide))
  have a2 : ∀ f x mm, cC16.fns.lookup f = some (x, mm) → FnD P w K mg base (4) g x mm (tT16 f) := (fun f x mm z => fnsC16 (Fx := FnD P w K mg base 4 g) (T := tT16) z ((fk14 F).mono (by omega)))
  have a3 : ∀ x, cC16.free.contains x = true → mg x = none := (fun x hx => F.fr x (frB (l := cC16.free) (by decide +kernel) x hx))
  have a4 : cC16.N = nN16 := rfl
  have a5 : cC16.sc = defScope (pTop 28) := rfl
  have a6 : mg "_law_scalar" = some (.ref (He.ga K "_law_scalar")) := F.glo _ (by decide +kernel)
  have a7 := fnScB_ok s16
  have a8 := fnD_run (P := P) (w := w) (base := base) (k := 4) (C := tT16) (body := bB16) Fu a6 bd a7 F.hK a4 a5 m16 a3 a1 F.gf a2
  exact a8
theorem fk24 (F : HFacts hDefs hNames hFrees hTf K mg base g hTb) : FnD P w K mg base 12 g "_law_drawn_items" 2 fF24 := by
  obtain ⟨fd, Fu⟩ := F.defs 26 _ rfl
  have Fu : FunD K "_law_drawn_items" "_law_drawn_items" (defArgs (pTop 36)) (defBody (pTop 36)) (defScope (pTop 36)) [] [] (He.ga K "_law_drawn_items") fd := Fu
  have bd : Binds K fd pP24 [] := Fu.bindsN fun _ _ _ _ _ _ us hl => match us, hl with | [_, _], _ => rfl
  have a1 : cC24.lam = true → LamOk g base mg fd.code ("_law_drawn_items" ++ ".<locals>.") (8) := (fun z => absurd z (by decide))
  have a2 : ∀ f x mm, cC24.fns.lookup f = some (x, mm) → FnD P w K mg base (8) g x mm (tT24 f) := (fun f x mm z => fnsC24 (Fx := FnD P w K mg base 8 g) (T := tT24) z ((fk14 F).mono (by omega)) ((fk16 F).mono (by omega)))
  have a3 : ∀ x, cC24.free.contains x = true → mg x = none := (fun x hx => F.fr x (frB (l := cC24.free) (by decide +kernel) x hx))
  have a4 : cC24.N = nN24 := rfl
  have a5 : cC24.sc = defScope (pTop 36) := rfl
  have a6 : mg "_law_drawn_items" = some (.ref (He.ga K "_law_drawn_items")) := F.glo _ (by decide +kernel)
  have a7 := fnScB_ok s24
  have a8 := fnD_run (P := P) (w := w) (base := base) (k := 8) (C := tT24) (body := bB24) Fu a6 bd a7 F.hK a4 a5 m24 a3 a1 F.gf a2
  exact a8
theorem fk21 (F : HFacts hDefs hNames hFrees hTf K mg base g hTb) : FnD P w K mg base 12 g "_law_keys" 1 fF21 := by
  obtain ⟨fd, Fu⟩ := F.defs 27 _ rfl
  have Fu : FunD K "_law_keys" "_law_keys" (defArgs (pTop 33)) (defBody (pTop 33)) (defScope (pTop 33)) [] [] (He.ga K "_law_keys") fd := Fu
  have bd : Binds K fd pP21 [] := Fu.bindsN fun _ _ _ _ _ _ us hl => match us, hl with | [_], _ => rfl
  have a1 : cC21.lam = true → LamOk g base mg fd.code ("_law_keys" ++ ".<locals>.") (8) := (fun z => absurd z (by decide))
  have a2 : ∀ f x mm, cC21.fns.lookup f = some (x, mm) → FnD P w K mg base (8) g x mm (tT21 f) := (fun f x mm z => fnsC21 (Fx := FnD P w K mg base 8 g) (T := tT21) z ((fk14 F).mono (by omega)) ((fk16 F).mono (by omega)))
  have a3 : ∀ x, cC21.free.contains x = true → mg x = none := (fun x hx => F.fr x (frB (l := cC21.free) (by decide +kernel) x hx))
  have a4 : cC21.N = nN21 := rfl
  have a5 : cC21.sc = defScope (pTop 33) := rfl
  have a6 : mg "_law_keys" = some (.ref (He.ga K "_law_keys")) := F.glo _ (by decide +kernel)
  have a7 := fnScB_ok s21
  have a8 := fnD_run (P := P) (w := w) (base := base) (k := 8) (C := tT21) (body := bB21) Fu a6 bd a7 F.hK a4 a5 m21 a3 a1 F.gf a2
  exact a8
theorem fk19 (F : HFacts hDefs hNames hFrees hTf K mg base g hTb) : FnD P w K mg base 8 g "_law_contents" 3 fF19 := by
  obtain ⟨fd, Fu⟩ := F.defs 28 _ rfl
  have Fu : FunD K "_law_contents" "_law_contents" (defArgs (pTop 31)) (defBody (pTop 31)) (defScope (pTop 31)) [] [] (He.ga K "_law_contents") fd := Fu
  have bd : Binds K fd pP19 [] := Fu.bindsN fun _ _ _ _ _ _ us hl => match us, hl with | [_, _, _], _ => rfl
  have a1 : cC19.lam = true → LamOk g base mg fd.code ("_law_contents" ++ ".<locals>.") (4) := (fun z => absurd z (by decide))
  have a2 : ∀ f x mm, cC19.fns.lookup f = some (x, mm) → FnD P w K mg base (4) g x mm (tT19 f) := (fun f x mm z => fnsC19 (Fx := FnD P w K mg base 4 g) (T := tT19) z ((fk14 F).mono (by omega)))
  have a3 : ∀ x, cC19.free.contains x = true → mg x = none := (fun x hx => F.fr x (frB (l := cC19.free) (by decide +kernel) x hx))
  have a4 : cC19.N = nN19 := rfl
  have a5 : cC19.sc = defScope (pTop 31) := rfl
  have a6 : mg "_law_contents" = some (.ref (He.ga K "_law_contents")) := F.glo _ (by decide +kernel)
  have a7 := fnScB_ok s19
  have a8 := fnD_run (P := P) (w := w) (base := base) (k := 4) (C := tT19) (body := bB19) Fu a6 bd a7 F.hK a4 a5 m19 a3 a1 F.gf a2
  exact a8
theorem fk17 (F : HFacts hDefs hNames hFrees hTf K mg base g hTb) : FnD P w K mg base 12 g "_law_element" 1 fF17 := by
  obtain ⟨fd, Fu⟩ := F.defs 29 _ rfl
  have Fu : FunD K "_law_element" "_law_element" (defArgs (pTop 29)) (defBody (pTop 29)) (defScope (pTop 29)) [] [] (He.ga K "_law_element") fd := Fu
  have bd : Binds K fd pP17 [] := Fu.bindsN fun _ _ _ _ _ _ us hl => match us, hl with | [_], _ => rfl
  have a1 : cC17.lam = true → LamOk g base mg fd.code ("_law_element" ++ ".<locals>.") (8) := (fun z => absurd z (by decide))
  have a2 : ∀ f x mm, cC17.fns.lookup f = some (x, mm) → FnD P w K mg base (8) g x mm (tT17 f) := (fun f x mm z => fnsC17 (Fx := FnD P w K mg base 8 g) (T := tT17) z ((fk16 F).mono (by omega)) ((fk14 F).mono (by omega)))
  have a3 : ∀ x, cC17.free.contains x = true → mg x = none := (fun x hx => F.fr x (frB (l := cC17.free) (by decide +kernel) x hx))
  have a4 : cC17.N = nN17 := rfl
  have a5 : cC17.sc = defScope (pTop 29) := rfl
  have a6 : mg "_law_element" = some (.ref (He.ga K "_law_element")) := F.glo _ (by decide +kernel)
  have a7 := fnScB_ok s17
  have a8 := fnD_run (P := P) (w := w) (base := base) (k := 8) (C := tT17) (body := bB17) Fu a6 bd a7 F.hK a4 a5 m17 a3 a1 F.gf a2
  exact a8
theorem fk18 (F : HFacts hDefs hNames hFrees hTf K mg base g hTb) : FnD P w K mg base 16 g "_law_pool" 1 fF18 := by
  obtain ⟨fd, Fu⟩ := F.defs 30 _ rfl
  have Fu : FunD K "_law_pool" "_law_pool" (defArgs (pTop 30)) (defBody (pTop 30)) (defScope (pTop 30)) [] [] (He.ga K "_law_pool") fd := Fu
  have bd : Binds K fd pP18 [] := Fu.bindsN fun _ _ _ _ _ _ us hl => match us, hl with | [_], _ => rfl
  have a1 : cC18.lam = true → LamOk g base mg fd.code ("_law_pool" ++ ".<locals>.") (12) := (fun z => absurd z (by decide))
  have a2 : ∀ f x mm, cC18.fns.lookup f = some (x, mm) → FnD P w K mg base (12) g x mm (tT18 f) := (fun f x mm z => fnsC18 (Fx := FnD P w K mg base 12 g) (T := tT18) z ((fk14 F).mono (by omega)) ((fk17 F).mono (by omega)))
  have a3 : ∀ x, cC18.free.contains x = true → mg x = none := (fun x hx => F.fr x (frB (l := cC18.free) (by decide +kernel) x hx))
  have a4 : cC18.N = nN18 := rfl
  have a5 : cC18.sc = defScope (pTop 30) := rfl
  have a6 : mg "_law_pool" = some (.ref (He.ga K "_law_pool")) := F.glo _ (by decide +kernel)
  have a7 := fnScB_ok s18
  have a8 := fnD_run (P := P) (w := w) (base := base) (k := 12) (C := tT18) (body := bB18) Fu a6 bd a7 F.hK a4 a5 m18 a3 a1 F.gf a2
  exact a8
theorem fk13 (F : HFacts hDefs hNames hFrees hTf K mg base g hTb) : FnD P w K mg base 4 g "_law_tape" 1 fF13 := by
  obtain ⟨fd, Fu⟩ := F.defs 31 _ rfl
  have Fu : FunD K "_law_tape" "_law_tape" (defArgs (pTop 25)) (defBody (pTop 25)) (defScope (pTop 25)) [] [] (He.ga K "_law_tape") fd := Fu
  have bd : Binds K fd pP13 [] := Fu.bindsN fun _ _ _ _ _ _ us hl => match us, hl with | [_], _ => rfl
  have a1 : cC13.lam = true → LamOk g base mg fd.code ("_law_tape" ++ ".<locals>.") (0) := (fun z => absurd z (by decide))
  have a2 : ∀ f x mm, cC13.fns.lookup f = some (x, mm) → FnD P w K mg base (0) g x mm (tT13 f) := (fun f x n z => nomatch (show (none : Option (Str × Nat)) = some (x, n) from z))
  have a3 : ∀ x, cC13.free.contains x = true → mg x = none := (fun x hx => F.fr x (frB (l := cC13.free) (by decide +kernel) x hx))
  have a4 : cC13.N = nN13 := rfl
  have a5 : cC13.sc = defScope (pTop 25) := rfl
  have a6 : mg "_law_tape" = some (.ref (He.ga K "_law_tape")) := F.glo _ (by decide +kernel)
  have a7 := fnScB_ok s13
  have a8 := fnD_run (P := P) (w := w) (base := base) (k := 0) (C := tT13) (body := bB13) Fu a6 bd a7 F.hK a4 a5 m13 a3 a1 F.gf a2
  exact a8
theorem okLaw (F : HFacts hDefs hNames hFrees hTf K mg base g hTb) {fd : FuncData} (Fu : FunD K "law" "law" (defArgs (pTop 44)) (defBody (pTop 44)) (defScope (pTop 44)) [] [] (He.ga K "law") fd) : FnOk P w K mg base (L2.CX P w) 37 (He.ga K "law") fd pP32 (spF g 1 fF32) := by
  have a1 : cC32.lam = true → LamOk g base mg fd.code ("law" ++ ".<locals>.") (33) := (fun z => absurd z (by decide))
  have a2 : ∀ f x mm, cC32.fns.lookup f = some (x, mm) → FnD P w K mg base (33) g x mm (tT32 f) := (fun f x mm z => fnsC32 (Fx := FnD P w K mg base 33 g) (T := tT32) z ((fk30 F).mono (by omega)) ((fk15 F).mono (by omega)) ((fk29 F).mono (by omega)) ((fk12 F).mono (by omega)) ((fk31 F).mono (by omega)) ((fk14 F).mono (by omega)) ((fk27 F).mono (by omega)) ((fk26 F).mono (by omega)) ((fk23 F).mono (by omega)) ((fk22 F).mono (by omega)) ((fk25 F).mono (by omega)) ((fk24 F).mono (by omega)) ((fk16 F).mono (by omega)) ((fk21 F).mono (by omega)) ((fk19 F).mono (by omega)) ((fk18 F).mono (by omega)) ((fk13 F).mono (by omega)))
  have a3 : ∀ x, cC32.free.contains x = true → mg x = none := (fun x hx => F.fr x (frB (l := cC32.free) (by decide +kernel) x hx))
  have a4 : cC32.N = nN32 := rfl
  have a5 : cC32.sc = defScope (pTop 44) := rfl
  have a7 := fnScB_ok s32
  have a8 := fnOk_run (P := P) (w := w) (base := base) (mg := mg) (k := 33) (C := tT32) (body := bB32) Fu a7 F.hK a4 a5 m32 a3 a1 F.gf a2
  exact a8
end
abbrev hFaL : List He.Fa := hNames.map He.Fa.glo ++ hFrees.map He.Fa.free
abbrev hHook : PySem.W.Hook := He.hookX 4 hFaL hDefs [] hTf (tbB hCls hTb)
def hOb (s : PySem.W.SharedT) : He.AlX := He.obsX 4 hFaL hDefs [] hTf (tbB hCls hTb) (HandSHeadRun.getT s)
theorem hOb_eq (s : PySem.W.SharedT) : hOb s = hHook.obs s.abs := He.obsX_eq (HandSHeadRun.getT_eq s)
theorem hRun (w : World) : HandSHeadRun.RunEq (PySem.W.OpenLaw.row PySem.Challenge.rw_sameshape_k76_kinds_of_contents) (PySem.W.view (PySem.W.OpenLaw.row PySem.Challenge.rw_sameshape_k76_kinds_of_contents).prog [44]) hHook hOb 4000 [("ShapeError" : Str), ("EmptyInterval" : Str), ("TooManyElements" : Str), ("MOST_ELEMENTS" : Str), ("check_count" : Str), ("within_bounds" : Str), ("simplified" : Str), ("check_interval" : Str), ("intervals_of" : Str), ("scalar_rank" : Str), ("entry_rank" : Str), ("map_of" : Str), ("queue_of" : Str), ("contents_of" : Str), ("fits" : Str), ("in_order" : Str), ("is_valid" : Str), ("_law_tape" : Str), ("_law_draw" : Str), ("_law_alike" : Str), ("_law_scalar" : Str), ("_law_element" : Str), ("_law_pool" : Str), ("_law_contents" : Str), ("_law_order" : Str), ("_law_keys" : Str), ("_law_entries" : Str), ("_law_priority" : Str), ("_law_drawn_items" : Str), ("_law_drawn_intervals" : Str), ("_law_members" : Str), ("_law_joined_numbers" : Str), ("_law_rising" : Str), ("_law_fits" : Str), ("_law_spoilt" : Str), ("_law_contents_of" : Str)] w := by
  intro os
  kernel_rfl
theorem hEnd (law : ∀ (ns : List Int) (d : D) (h : Hd), ns.length ≤ 63 → ScriptD (ns.map D.int) d h → ∃ h', fF32 [d] h = .ok (.bl true) h') : PySem.Challenge.rw_sameshape_k76_kinds_of_contents.Holds := by
  w_on; o_law
  refine HandSHeadRun.head_any (r := (PySem.W.OpenLaw.row PySem.Challenge.rw_sameshape_k76_kinds_of_contents)) (q := PySem.W.view (PySem.W.OpenLaw.row PySem.Challenge.rw_sameshape_k76_kinds_of_contents).prog [44]) (H := hHook) (ob := hOb) (M := 4000) (loose := [("ShapeError" : Str), ("EmptyInterval" : Str), ("TooManyElements" : Str), ("MOST_ELEMENTS" : Str), ("check_count" : Str), ("within_bounds" : Str), ("simplified" : Str), ("check_interval" : Str), ("intervals_of" : Str), ("scalar_rank" : Str), ("entry_rank" : Str), ("map_of" : Str), ("queue_of" : Str), ("contents_of" : Str), ("fits" : Str), ("in_order" : Str), ("is_valid" : Str), ("_law_tape" : Str), ("_law_draw" : Str), ("_law_alike" : Str), ("_law_scalar" : Str), ("_law_element" : Str), ("_law_pool" : Str), ("_law_contents" : Str), ("_law_order" : Str), ("_law_keys" : Str), ("_law_entries" : Str), ("_law_priority" : Str), ("_law_drawn_items" : Str), ("_law_drawn_intervals" : Str), ("_law_members" : Str), ("_law_joined_numbers" : Str), ("_law_rising" : Str), ("_law_fits" : Str), ("_law_spoilt" : Str), ("_law_contents_of" : Str)]) (d := HandSHeadRun.topDef (PySem.W.OpenLaw.row PySem.Challenge.rw_sameshape_k76_kinds_of_contents).prog 44) (kwd := []) hOb_eq
    (by kernel_rfl) (fun s => by kernel_rfl) hRun (by kernel_rfl) (by kernel_rfl) (by kernel_rfl) (by rfl) (by first | assumption | decide +kernel) (by decide +kernel) ⟨rfl, rfl, rfl, rfl, rfl, by decide +kernel⟩ ?hw ?hc
  case hw => w_witness2
  case hc =>
    refine LamX.walk_ofTsE (l := PySem.Challenge.rw_sameshape_k76_kinds_of_contents) (n := 63) (k := 37) (x := "_law_script") (CX := fun w => L2.CX (PySem.Challenge.rw_sameshape_k76_kinds_of_contents).prog w) rfl (by decide) (by kernel_rfl) ⟨rfl, by decide, by decide⟩ ?F (fun _ _ _ _ _ z => cx_never z)
    intro w mg fa h Y G hmg0
    obtain ⟨K, KX, c⟩ := Y
    have hmg : mg ("law" : PySem.Str) = some (.ref fa) := by
      have e : (HandSHeadRun.topDef (PySem.W.OpenLaw.row PySem.Challenge.rw_sameshape_k76_kinds_of_contents).prog 44).name = ("law" : PySem.Str) := by kernel_rfl
      rw [← e]
      exact hmg0
    obtain ⟨fd, Fu⟩ := c.t.d.def_ 32 rfl
    have Fu : FunD K "law" "law" (defArgs (pTop 44)) (defBody (pTop 44)) (defScope (pTop 44)) [] [] (He.ga K "law") fd := Fu
    have efa := hmg.symm.trans (He.glo_ok KX G (c.t.d.facts (f := .glo "law") (List.mem_append_left _ (List.mem_map.mpr ⟨_, by decide +kernel, rfl⟩))))
    cases efa
    have b := FunD.bindsA (ps := pP32) Fu fun _ _ _ _ _ _ us hl => match us, hl with | [_], _ => rfl
    have tbs : ∀ (base : Heap), (∀ p ∈ hTf.map (He.cT K), LamX.TabB base mg p.1 p.2) → ∀ p ∈ hTf, LamX.TabB base mg (He.cT K p).1 (He.cT K p).2 := fun base z p hp => z _ (List.mem_map.mpr ⟨p, hp, rfl⟩)
    have un : ∀ {Z : Addr × Addr → Prop}, (∀ p ∈ hTf, Z (He.cT K p)) → ∀ p ∈ hTf.map (He.cT K), Z p := fun z p hp => by
      obtain ⟨q, hq, rfl⟩ := List.mem_map.mp hp
      exact z q hq
    refine ⟨K, KX, fd, hTf.map (He.cT K), spF ⟨K, clsG hCls K, gdT hTf K⟩ 1 fF32, un c.empty, un c.out, un fun p hp => PySem.W.codeHd_of_K KX (c.hd p hp), fun s v => b s [v] rfl, fun H a ns hl _ hH hS => ?_, fun base hKb hG htb => ?_⟩
    · exact law_sp (g := ⟨K, clsG hCls K, gdT hTf K⟩) (tb := gdT hTf K) rfl law H a ns hl (fun p hp => by
        obtain ⟨q, hq, rfl⟩ := List.mem_map.mp hp
        exact hH _ (List.mem_map.mpr ⟨q, hq, rfl⟩)) hS
    · exact okLaw (g := ⟨K, clsG hCls K, gdT hTf K⟩) (hfacts_of KX G c (tbs base htb) (by decide) rfl rfl rfl) Fu
end DL

set_option Elab.async false
set_option linter.all false
set_option maxRecDepth 100000
set_option maxHeartbeats 4000000
namespace DL
open PySem PySem.Spec PyProof.Rows L2
/-- the tape at t -/
structure Tape (t : Nat) (h : Hd) : Prop where
  ex : ∃ (s : Nat) (a b c : Int) (ns : List Int), h[t]? = some (.lst [.ref s, .int a, .int b, .int c]) ∧ h[s]? = some (.lst (ns.map D.int)) ∧ s < t ∧ 0 ≤ a ∧ ns.length ≤ 63
/-- all but t stays -/
structure Fr (t : Nat) (h h' : Hd) : Prop where
  len : h.length ≤ h'.length
  keep : ∀ (i : Nat) o, i ≠ t → h[i]? = some o → h'[i]? = some o
theorem Fr.refl {t : Nat} {h : Hd} : Fr t h h := ⟨Nat.le_refl _, fun _ _ _ e => e⟩
theorem Fr.trans {t : Nat} {h h1 h2 : Hd} (a : Fr t h h1) (b : Fr t h1 h2) : Fr t h h2 := ⟨Nat.le_trans a.len b.len, fun i o n e => b.keep i o n (a.keep i o n e)⟩
theorem Fr.set {t : Nat} {h : Hd} {o : OD} : Fr t h (h.set t o) := ⟨by simp, fun i u n e => by rw [List.getElem?_set_ne (Ne.symm n)]; exact e⟩
theorem Fr.app {t : Nat} {h k : Hd} : Fr t h (h ++ k) := ⟨by simp, fun i u n e => by rw [List.getElem?_append_left (List.getElem?_eq_some_iff.mp e).1]; exact e⟩
theorem log_small {j : Int} (h0 : 0 < j) (h : j ≤ 4294967296) : j.natAbs.log2 < 9000 := by
  have h1 : j.natAbs < 2 ^ 33 := by omega
  have h2 : j.natAbs ≠ 0 := by omega
  have := (Nat.log2_lt h2).mpr h1
  omega
theorem Tape.put {t s : Nat} {h : Hd} {a b c : Int} {ns : List Int} {o : OD} (e0 : h[t]? = some o) (e2 : h[s]? = some (.lst (ns.map D.int))) (e3 : s < t) (e4 : 0 ≤ a) (e5 : ns.length ≤ 63) : Tape t (h.set t (.lst [.ref s, .int a, .int b, .int c])) :=
  ⟨s, a, b, c, ns, set_at e0, by rw [List.getElem?_set_ne (Nat.ne_of_gt e3)]; exact e2, e3, e4, e5⟩
theorem draw_end {t s : Nat} {n k : Int} {h : Hd} {a b c : Int} {ns : List Int} {o : OD} {x : Hd} (n1 : 1 ≤ n) (e0 : h[t]? = some o) (e2 : h[s]? = some (.lst (ns.map D.int))) (e3 : s < t) (e4 : 0 ≤ a) (e5 : ns.length ≤ 63) (f : Fr t x h) :
    ∃ v, D.int (k % n) = .int v ∧ 0 ≤ v ∧ v < n ∧ Tape t (h.set t (.lst [.ref s, .int a, .int b, .int c])) ∧ Fr t x (h.set t (.lst [.ref s, .int a, .int b, .int c])) :=
  ⟨_, rfl, Int.emod_nonneg _ (by omega), Int.emod_lt_of_pos _ (by omega), .put e0 e2 e3 e4 e5, f.trans .set⟩
theorem draw_sat {t : Nat} {n : Int} {h : Hd} (T : Tape t h) (n1 : 1 ≤ n) (n2 : n ≤ 4294967296) : (fF14 [.ref t, .int n] h).sat fun d h' => ∃ v, d = .int v ∧ 0 ≤ v ∧ v < n ∧ Tape t h' ∧ Fr t h h' := by
  obtain ⟨s, a, b, c, ns, e1, e2, e3, e4, e5⟩ := T.ex
  refine runP_v (σ := [some (.ref t), some (.int n), none, none]) (by rfl) (by rfl) ?_
  have m1 : (if 1 > n then 1 else n) = n := if_neg (by omega)
  have m2 : 0 < (if 2 > n then 2 else n) := by split <;> omega
  have m3 : (if 2 > n then 2 else n).natAbs.log2 < 9000 := log_small m2 (by split <;> omega)
  have n0 : 0 < n := by omega
  have e2s : ∀ {k : Hd} (o : OD), k[s]? = some (.lst (ns.map D.int)) → (k.set t o)[s]? = some (.lst (ns.map D.int)) := fun o z => by rw [List.getElem?_set_ne (Nat.ne_of_gt e3)]; exact z
  unfold bB14
  simp (maxSteps := 2000000) (disch := decide) only [↓zdg, ↓zbx, ↓FL.then_nx, ↓FL.then_rt, ↓FL.then_bk, ↓FL.then_ct, ↓zbu, ↓zbv, ↓zcz, ↓zew, ↓zdc, ↓zex, ↓zdd, ↓zbw, ↓zev, ↓zeu, ↓zet, ↓zcy, ↓zda, ↓zdb, ↓zde, ↓zey, ↓zes, ↓zbi, ↓zfx, ↓zfy, ↓zci, ↓zcj, ↓zfp, ↓zbh, ↓zfh, ↓zfn, ↓zga, ↓zfl, ↓zdp, ↓zdo, ↓zfm, ↓zff, ↓zfk, ↓zgc, ↓zfd, ↓zgd, ↓zfq, ↓or1, ↓and2, ↓or2, ↓zdr, ↓zfs, ↓zds, ↓zft, ↓zfg, ↓zeg, ↓zcr, ↓zfo, ↓zfj, ↓zgb, ↓zfr, ↓zer, ↓zbk, ↓zge, ↓zfz, ↓zfi, ↓zdm, ↓zfe, ↓zdn, ↓zca, ↓zcb, ↓zfa, ↓zfv, ↓zez, ↓zfw, ↓zfc, ↓zfu, ↓zfb, ↓zdj, ↓zcd, ↓zdk, ↓zbl, ↓zdy, ↓zcf, ↓zdz, ↓zcg, ↓zbz, ↓zcc, ↓zdi, ↓zei, ↓zeh, ↓zdx, ↓zdw, ↓zdu, ↓zdq, ↓zea, ↓zcs, ↓zct, ↓zen, ↓zbg, ↓zcv, ↓zcu, ↓zcx, ↓zce, ↓reduceIte, and_self, ↓zbt, ↓zcq, ↓zbs, ↓zbm, ↓zdl, ↓zdf, ↓zby, ↓zec, ↓zed, ↓zee, ↓zef, ↓zdv, ↓zdt, ↓zem, ↓zek, ↓zel, ↓zej, ↓zcl, ↓zeb, ↓zck, ↓zcn, ↓zco, ↓zcm, ↓zbo, ↓zcp, ↓zbn, ↓zbq, ↓zbr, ↓zbp, ↓zal, ↓zak, ↓zai, ↓zba, ↓zaj, ↓zax, ↓zaw, ↓zau, ↓zbe, ↓zav, ↓zad, ↓zac, ↓zaa, ↓zay, ↓zab, ↓zap, ↓zao, ↓zam, ↓zbb, ↓zan, ↓zat, ↓zas, ↓zaq, ↓zbc, ↓zar, ↓zah, ↓zag, ↓zae, ↓zaz, ↓zaf, Bool.not_true, Bool.not_false, Bool.false_eq_true, zbf, zbd, ↓sl0, ↓sl1, ↓sl2, ↓sl3, ↓sl4, ↓sl5, ↓sl6, ↓sl7, ↓sl8, true_and, and_true, zbj, decide_true, decide_false, List.getElem?_cons_zero, List.getElem?_cons_succ, List.set_cons_zero, List.set_cons_succ, ↓ix_ref e1 atI_2, ↓ix_ref e1 atI_1, ↓ix_ref e1 atI_0, ↓ix_ref e1 atI_3, ↓len_ref e2, m1, ↓zce m2 m3, ↓zcu n0, setD4_2 e1]
  generalize (if 2 > n then 2 else n) = k2 at m2 m3
  by_cases hb : b = 0
  · rw [if_pos (decide_eq_true hb)]
    by_cases ha : a < ((ns.map D.int).length : Int)
    · rw [if_pos (decide_eq_true ha)]
      have hx : ∃ z, atI (ns.map D.int) a = some (.int z) := by
        obtain ⟨j, rfl⟩ := Int.eq_ofNat_of_zero_le e4
        have hj : j < ns.length := by simpa using ha
        exact ⟨ns[j], atI_nat (by rw [List.getElem?_map, List.getElem?_eq_getElem hj]; rfl)⟩
      obtain ⟨z, hz⟩ := hx
      simp (maxSteps := 2000000) (disch := decide) only [↓zdg, ↓zbx, ↓FL.then_nx, ↓FL.then_rt, ↓FL.then_bk, ↓FL.then_ct, ↓zbu, ↓zbv, ↓zcz, ↓zew, ↓zdc, ↓zex, ↓zdd, ↓zbw, ↓zev, ↓zeu, ↓zet, ↓zcy, ↓zda, ↓zdb, ↓zde, ↓zey, ↓zes, ↓zbi, ↓zfx, ↓zfy, ↓zci, ↓zcj, ↓zfp, ↓zbh, ↓zfh, ↓zfn, ↓zga, ↓zfl, ↓zdp, ↓zdo, ↓zfm, ↓zff, ↓zfk, ↓zgc, ↓zfd, ↓zgd, ↓zfq, ↓or1, ↓and2, ↓or2, ↓zdr, ↓zfs, ↓zds, ↓zft, ↓zfg, ↓zeg, ↓zcr, ↓zfo, ↓zfj, ↓zgb, ↓zfr, ↓zer, ↓zbk, ↓zge, ↓zfz, ↓zfi, ↓zdm, ↓zfe, ↓zdn, ↓zca, ↓zcb, ↓zfa, ↓zfv, ↓zez, ↓zfw, ↓zfc, ↓zfu, ↓zfb, ↓zdj, ↓zcd, ↓zdk, ↓zbl, ↓zdy, ↓zcf, ↓zdz, ↓zcg, ↓zbz, ↓zcc, ↓zdi, ↓zei, ↓zeh, ↓zdx, ↓zdw, ↓zdu, ↓zdq, ↓zea, ↓zcs, ↓zct, ↓zen, ↓zbg, ↓zcv, ↓zcu, ↓zcx, ↓zce, ↓reduceIte, and_self, ↓zbt, ↓zcq, ↓zbs, ↓zbm, ↓zdl, ↓zdf, ↓zby, ↓zec, ↓zed, ↓zee, ↓zef, ↓zdv, ↓zdt, ↓zem, ↓zek, ↓zel, ↓zej, ↓zcl, ↓zeb, ↓zck, ↓zcn, ↓zco, ↓zcm, ↓zbo, ↓zcp, ↓zbn, ↓zbq, ↓zbr, ↓zbp, ↓zal, ↓zak, ↓zai, ↓zba, ↓zaj, ↓zax, ↓zaw, ↓zau, ↓zbe, ↓zav, ↓zad, ↓zac, ↓zaa, ↓zay, ↓zab, ↓zap, ↓zao, ↓zam, ↓zbb, ↓zan, ↓zat, ↓zas, ↓zaq, ↓zbc, ↓zar, ↓zah, ↓zag, ↓zae, ↓zaz, ↓zaf, Bool.not_true, Bool.not_false, Bool.false_eq_true, zbf, zbd, ↓sl0, ↓sl1, ↓sl2, ↓sl3, ↓sl4, ↓sl5, ↓sl6, ↓sl7, ↓sl8, true_and, and_true, zbj, decide_true, decide_false, List.getElem?_cons_zero, List.getElem?_cons_succ, List.set_cons_zero, List.set_cons_succ, ↓ix_ref e2 hz, setD4_1 e1]
      generalize (if z < 0 then -z else z) = y
      have e6 := set_at (o := .lst [.ref s, .int (a + 1), .int b, .int c]) e1
      split
      · exact (zcu n0).mpr (draw_end n1 e1 e2 e3 (by omega) e5 .refl)
      · have e7 := set_at (o := .lst [.ref s, .int (a + 1), .int y, .int c]) e6
        simp (maxSteps := 2000000) (disch := decide) only [↓zdg, ↓zbx, ↓FL.then_nx, ↓FL.then_rt, ↓FL.then_bk, ↓FL.then_ct, ↓zbu, ↓zbv, ↓zcz, ↓zew, ↓zdc, ↓zex, ↓zdd, ↓zbw, ↓zev, ↓zeu, ↓zet, ↓zcy, ↓zda, ↓zdb, ↓zde, ↓zey, ↓zes, ↓zbi, ↓zfx, ↓zfy, ↓zci, ↓zcj, ↓zfp, ↓zbh, ↓zfh, ↓zfn, ↓zga, ↓zfl, ↓zdp, ↓zdo, ↓zfm, ↓zff, ↓zfk, ↓zgc, ↓zfd, ↓zgd, ↓zfq, ↓or1, ↓and2, ↓or2, ↓zdr, ↓zfs, ↓zds, ↓zft, ↓zfg, ↓zeg, ↓zcr, ↓zfo, ↓zfj, ↓zgb, ↓zfr, ↓zer, ↓zbk, ↓zge, ↓zfz, ↓zfi, ↓zdm, ↓zfe, ↓zdn, ↓zca, ↓zcb, ↓zfa, ↓zfv, ↓zez, ↓zfw, ↓zfc, ↓zfu, ↓zfb, ↓zdj, ↓zcd, ↓zdk, ↓zbl, ↓zdy, ↓zcf, ↓zdz, ↓zcg, ↓zbz, ↓zcc, ↓zdi, ↓zei, ↓zeh, ↓zdx, ↓zdw, ↓zdu, ↓zdq, ↓zea, ↓zcs, ↓zct, ↓zen, ↓zbg, ↓zcv, ↓zcu, ↓zcx, ↓zce, ↓reduceIte, and_self, ↓zbt, ↓zcq, ↓zbs, ↓zbm, ↓zdl, ↓zdf, ↓zby, ↓zec, ↓zed, ↓zee, ↓zef, ↓zdv, ↓zdt, ↓zem, ↓zek, ↓zel, ↓zej, ↓zcl, ↓zeb, ↓zck, ↓zcn, ↓zco, ↓zcm, ↓zbo, ↓zcp, ↓zbn, ↓zbq, ↓zbr, ↓zbp, ↓zal, ↓zak, ↓zai, ↓zba, ↓zaj, ↓zax, ↓zaw, ↓zau, ↓zbe, ↓zav, ↓zad, ↓zac, ↓zaa, ↓zay, ↓zab, ↓zap, ↓zao, ↓zam, ↓zbb, ↓zan, ↓zat, ↓zas, ↓zaq, ↓zbc, ↓zar, ↓zah, ↓zag, ↓zae, ↓zaz, ↓zaf, Bool.not_true, Bool.not_false, Bool.false_eq_true, zbf, zbd, ↓sl0, ↓sl1, ↓sl2, ↓sl3, ↓sl4, ↓sl5, ↓sl6, ↓sl7, ↓sl8, true_and, and_true, zbj, decide_true, decide_false, List.getElem?_cons_zero, List.getElem?_cons_succ, List.set_cons_zero, List.set_cons_succ, setD4_2 e6, ↓ix_ref e7 atI_2, ↓zce m2 m3, ↓zcu n0, setD4_2 e7]
        exact draw_end n1 e7 (e2s _ (e2s _ e2)) e3 (by omega) e5 (Fr.set.trans .set)
    · rw [if_neg (by simpa using ha)]
      have e6 : ∀ q, (h.set t (.lst [.ref s, .int a, .int b, .int q]))[t]? = some (.lst [.ref s, .int a, .int b, .int q]) := fun q => set_at e1
      have e7 : ∀ q, ((h.set t (.lst [.ref s, .int a, .int b, .int q])).set t (.lst [.ref s, .int (a + 1), .int b, .int q]))[t]? = some (.lst [.ref s, .int (a + 1), .int b, .int q]) := fun q => set_at (e6 q)
      have e8 : ∀ q y, (((h.set t (.lst [.ref s, .int a, .int b, .int q])).set t (.lst [.ref s, .int (a + 1), .int b, .int q])).set t (.lst [.ref s, .int (a + 1), .int y, .int q]))[t]? = some (.lst [.ref s, .int (a + 1), .int y, .int q]) := fun q y => set_at (e7 q)
      simp (maxSteps := 2000000) (disch := decide) only [↓zdg, ↓zbx, ↓FL.then_nx, ↓FL.then_rt, ↓FL.then_bk, ↓FL.then_ct, ↓zbu, ↓zbv, ↓zcz, ↓zew, ↓zdc, ↓zex, ↓zdd, ↓zbw, ↓zev, ↓zeu, ↓zet, ↓zcy, ↓zda, ↓zdb, ↓zde, ↓zey, ↓zes, ↓zbi, ↓zfx, ↓zfy, ↓zci, ↓zcj, ↓zfp, ↓zbh, ↓zfh, ↓zfn, ↓zga, ↓zfl, ↓zdp, ↓zdo, ↓zfm, ↓zff, ↓zfk, ↓zgc, ↓zfd, ↓zgd, ↓zfq, ↓or1, ↓and2, ↓or2, ↓zdr, ↓zfs, ↓zds, ↓zft, ↓zfg, ↓zeg, ↓zcr, ↓zfo, ↓zfj, ↓zgb, ↓zfr, ↓zer, ↓zbk, ↓zge, ↓zfz, ↓zfi, ↓zdm, ↓zfe, ↓zdn, ↓zca, ↓zcb, ↓zfa, ↓zfv, ↓zez, ↓zfw, ↓zfc, ↓zfu, ↓zfb, ↓zdj, ↓zcd, ↓zdk, ↓zbl, ↓zdy, ↓zcf, ↓zdz, ↓zcg, ↓zbz, ↓zcc, ↓zdi, ↓zei, ↓zeh, ↓zdx, ↓zdw, ↓zdu, ↓zdq, ↓zea, ↓zcs, ↓zct, ↓zen, ↓zbg, ↓zcv, ↓zcu, ↓zcx, ↓zce, ↓reduceIte, and_self, ↓zbt, ↓zcq, ↓zbs, ↓zbm, ↓zdl, ↓zdf, ↓zby, ↓zec, ↓zed, ↓zee, ↓zef, ↓zdv, ↓zdt, ↓zem, ↓zek, ↓zel, ↓zej, ↓zcl, ↓zeb, ↓zck, ↓zcn, ↓zco, ↓zcm, ↓zbo, ↓zcp, ↓zbn, ↓zbq, ↓zbr, ↓zbp, ↓zal, ↓zak, ↓zai, ↓zba, ↓zaj, ↓zax, ↓zaw, ↓zau, ↓zbe, ↓zav, ↓zad, ↓zac, ↓zaa, ↓zay, ↓zab, ↓zap, ↓zao, ↓zam, ↓zbb, ↓zan, ↓zat, ↓zas, ↓zaq, ↓zbc, ↓zar, ↓zah, ↓zag, ↓zae, ↓zaz, ↓zaf, Bool.not_true, Bool.not_false, Bool.false_eq_true, zbf, zbd, ↓sl0, ↓sl1, ↓sl2, ↓sl3, ↓sl4, ↓sl5, ↓sl6, ↓sl7, ↓sl8, true_and, and_true, zbj, decide_true, decide_false, List.getElem?_cons_zero, List.getElem?_cons_succ, List.set_cons_zero, List.set_cons_succ, setD4_3 e1, ↓ix_ref (e6 _) atI_3, setD4_1 (e6 _)]
      split
      · exact (zcu n0).mpr (draw_end n1 (e6 _) (e2s _ e2) e3 (by omega) e5 .set)
      · simp (maxSteps := 2000000) (disch := decide) only [↓zdg, ↓zbx, ↓FL.then_nx, ↓FL.then_rt, ↓FL.then_bk, ↓FL.then_ct, ↓zbu, ↓zbv, ↓zcz, ↓zew, ↓zdc, ↓zex, ↓zdd, ↓zbw, ↓zev, ↓zeu, ↓zet, ↓zcy, ↓zda, ↓zdb, ↓zde, ↓zey, ↓zes, ↓zbi, ↓zfx, ↓zfy, ↓zci, ↓zcj, ↓zfp, ↓zbh, ↓zfh, ↓zfn, ↓zga, ↓zfl, ↓zdp, ↓zdo, ↓zfm, ↓zff, ↓zfk, ↓zgc, ↓zfd, ↓zgd, ↓zfq, ↓or1, ↓and2, ↓or2, ↓zdr, ↓zfs, ↓zds, ↓zft, ↓zfg, ↓zeg, ↓zcr, ↓zfo, ↓zfj, ↓zgb, ↓zfr, ↓zer, ↓zbk, ↓zge, ↓zfz, ↓zfi, ↓zdm, ↓zfe, ↓zdn, ↓zca, ↓zcb, ↓zfa, ↓zfv, ↓zez, ↓zfw, ↓zfc, ↓zfu, ↓zfb, ↓zdj, ↓zcd, ↓zdk, ↓zbl, ↓zdy, ↓zcf, ↓zdz, ↓zcg, ↓zbz, ↓zcc, ↓zdi, ↓zei, ↓zeh, ↓zdx, ↓zdw, ↓zdu, ↓zdq, ↓zea, ↓zcs, ↓zct, ↓zen, ↓zbg, ↓zcv, ↓zcu, ↓zcx, ↓zce, ↓reduceIte, and_self, ↓zbt, ↓zcq, ↓zbs, ↓zbm, ↓zdl, ↓zdf, ↓zby, ↓zec, ↓zed, ↓zee, ↓zef, ↓zdv, ↓zdt, ↓zem, ↓zek, ↓zel, ↓zej, ↓zcl, ↓zeb, ↓zck, ↓zcn, ↓zco, ↓zcm, ↓zbo, ↓zcp, ↓zbn, ↓zbq, ↓zbr, ↓zbp, ↓zal, ↓zak, ↓zai, ↓zba, ↓zaj, ↓zax, ↓zaw, ↓zau, ↓zbe, ↓zav, ↓zad, ↓zac, ↓zaa, ↓zay, ↓zab, ↓zap, ↓zao, ↓zam, ↓zbb, ↓zan, ↓zat, ↓zas, ↓zaq, ↓zbc, ↓zar, ↓zah, ↓zag, ↓zae, ↓zaz, ↓zaf, Bool.not_true, Bool.not_false, Bool.false_eq_true, zbf, zbd, ↓sl0, ↓sl1, ↓sl2, ↓sl3, ↓sl4, ↓sl5, ↓sl6, ↓sl7, ↓sl8, true_and, and_true, zbj, decide_true, decide_false, List.getElem?_cons_zero, List.getElem?_cons_succ, List.set_cons_zero, List.set_cons_succ, setD4_2 (e7 _), ↓ix_ref (e8 _ _) atI_2, ↓zce m2 m3, ↓zcu n0, setD4_2 (e8 _ _)]
        exact draw_end n1 (e8 _ _) (e2s _ (e2s _ (e2s _ e2))) e3 (by omega) e5 ((Fr.set.trans .set).trans .set)
  · rw [if_neg (by simp [hb])]
    first
      | exact draw_end n1 e1 e2 e3 e4 e5 .refl
      | (simp (maxSteps := 2000000) (disch := decide) only [↓zdg, ↓zbx, ↓FL.then_nx, ↓FL.then_rt, ↓FL.then_bk, ↓FL.then_ct, ↓zbu, ↓zbv, ↓zcz, ↓zew, ↓zdc, ↓zex, ↓zdd, ↓zbw, ↓zev, ↓zeu, ↓zet, ↓zcy, ↓zda, ↓zdb, ↓zde, ↓zey, ↓zes, ↓zbi, ↓zfx, ↓zfy, ↓zci, ↓zcj, ↓zfp, ↓zbh, ↓zfh, ↓zfn, ↓zga, ↓zfl, ↓zdp, ↓zdo, ↓zfm, ↓zff, ↓zfk, ↓zgc, ↓zfd, ↓zgd, ↓zfq, ↓or1, ↓and2, ↓or2, ↓zdr, ↓zfs, ↓zds, ↓zft, ↓zfg, ↓zeg, ↓zcr, ↓zfo, ↓zfj, ↓zgb, ↓zfr, ↓zer, ↓zbk, ↓zge, ↓zfz, ↓zfi, ↓zdm, ↓zfe, ↓zdn, ↓zca, ↓zcb, ↓zfa, ↓zfv, ↓zez, ↓zfw, ↓zfc, ↓zfu, ↓zfb, ↓zdj, ↓zcd, ↓zdk, ↓zbl, ↓zdy, ↓zcf, ↓zdz, ↓zcg, ↓zbz, ↓zcc, ↓zdi, ↓zei, ↓zeh, ↓zdx, ↓zdw, ↓zdu, ↓zdq, ↓zea, ↓zcs, ↓zct, ↓zen, ↓zbg, ↓zcv, ↓zcu, ↓zcx, ↓zce, ↓reduceIte, and_self, ↓zbt, ↓zcq, ↓zbs, ↓zbm, ↓zdl, ↓zdf, ↓zby, ↓zec, ↓zed, ↓zee, ↓zef, ↓zdv, ↓zdt, ↓zem, ↓zek, ↓zel, ↓zej, ↓zcl, ↓zeb, ↓zck, ↓zcn, ↓zco, ↓zcm, ↓zbo, ↓zcp, ↓zbn, ↓zbq, ↓zbr, ↓zbp, ↓zal, ↓zak, ↓zai, ↓zba, ↓zaj, ↓zax, ↓zaw, ↓zau, ↓zbe, ↓zav, ↓zad, ↓zac, ↓zaa, ↓zay, ↓zab, ↓zap, ↓zao, ↓zam, ↓zbb, ↓zan, ↓zat, ↓zas, ↓zaq, ↓zbc, ↓zar, ↓zah, ↓zag, ↓zae, ↓zaz, ↓zaf, Bool.not_true, Bool.not_false, Bool.false_eq_true, zbf, zbd, ↓sl0, ↓sl1, ↓sl2, ↓sl3, ↓sl4, ↓sl5, ↓sl6, ↓sl7, ↓sl8, true_and, and_true, zbj, decide_true, decide_false, List.getElem?_cons_zero, List.getElem?_cons_succ, List.set_cons_zero, List.set_cons_succ, ↓zce m2 m3, setD4_2 e1, ↓zcu n0]; exact draw_end n1 e1 e2 e3 e4 e5 .refl)
end DL

set_option Elab.async false
set_option linter.all false
set_option maxRecDepth 100000
set_option maxHeartbeats 4000000
namespace DL
open PySem PySem.Spec PyProof.Rows L2
section
variable {E : XP} {t n : Nat} {h : Hd} {P : D → Hd → Prop}
theorem draw_v {k : Int} (T : Tape t h) (n1 : 1 ≤ k) (n2 : k ≤ 4294967296) (q : ∀ v h1, 0 ≤ v → v < k → Tape t h1 → Fr t h h1 → P (.int v) h1) : vC (E := E) fF14 [.ref t, .int k] h P :=
  vC.mono (draw_sat T n1 n2) fun d h1 ⟨v, e, v0, v1, T1, f1⟩ => e ▸ q v h1 v0 v1 T1 f1
theorem ix_lit {ds : List D} {v : Int} (e : h[n]? = some (.lst ds)) (v0 : 0 ≤ v) (v1 : v < ds.length) (q : ∀ d ∈ ds, P d h) : vO (semIx2 (.ref n) (.int v) h) P := by
  obtain ⟨j, rfl⟩ := Int.eq_ofNat_of_zero_le v0
  have hj : j < ds.length := by omega
  exact (ix_ref e (atI_nat (List.getElem?_eq_getElem hj))).mpr (q _ (List.getElem_mem hj))
theorem Tape.lt (T : Tape t h) : t < h.length := by
  obtain ⟨_, _, _, _, _, e, _⟩ := T.ex
  exact (List.getElem?_eq_some_iff.mp e).1
theorem Tape.app {k : Hd} (T : Tape t h) : Tape t (h ++ k) := by
  obtain ⟨s, a, b, c, ns, e1, e2, e3⟩ := T.ex
  exact ⟨s, a, b, c, ns, app_at e1, app_at e2, e3⟩
theorem Fr.new {h1 : Hd} {o : OD} (T : Tape t h) (f : Fr t (h ++ [o]) h1) : h1[h.length]? = some o := f.keep _ _ (Nat.ne_of_gt T.lt) app_new
end
theorem tape_sat {ns : List Int} {d : D} {h : Hd} (hn : ns.length ≤ 63) (S : ScriptD (ns.map D.int) d h) : (fF13 [d] h).sat fun r h' => ∃ t, r = .ref t ∧ Tape t h' := by
  have es : seqOf h d = some (ns.map D.int) := by cases S <;> rfl
  obtain ⟨I, eI, ei, hg⟩ : ∃ I, itSeq d h = some I ∧ I.items = ns.map D.int ∧ I.guard h := by
    cases S with
    | rol => exact ⟨_, rfl, rfl, fun _ z => nomatch z⟩
    | lst => exact ⟨_, rfl, rfl, fun p z => by rw [List.mem_singleton.mp z]; rfl⟩
  refine runP_v (σ := [some d, none, none]) (by rfl) (by rfl) ?_
  unfold bB13
  simp (maxSteps := 2000000) (disch := decide) only [↓zdg, ↓zbx, ↓FL.then_nx, ↓FL.then_rt, ↓FL.then_bk, ↓FL.then_ct, ↓zbu, ↓zbv, ↓zcz, ↓zew, ↓zdc, ↓zex, ↓zdd, ↓zbw, ↓zev, ↓zeu, ↓zet, ↓zcy, ↓zda, ↓zdb, ↓zde, ↓zey, ↓zes, ↓zbi, ↓zfx, ↓zfy, ↓zci, ↓zcj, ↓zfp, ↓zbh, ↓zfh, ↓zfn, ↓zga, ↓zfl, ↓zdp, ↓zdo, ↓zfm, ↓zff, ↓zfk, ↓zgc, ↓zfd, ↓zgd, ↓zfq, ↓or1, ↓and2, ↓or2, ↓zdr, ↓zfs, ↓zds, ↓zft, ↓zfg, ↓zeg, ↓zcr, ↓zfo, ↓zfj, ↓zgb, ↓zfr, ↓zer, ↓zbk, ↓zge, ↓zfz, ↓zfi, ↓zdm, ↓zfe, ↓zdn, ↓zca, ↓zcb, ↓zfa, ↓zfv, ↓zez, ↓zfw, ↓zfc, ↓zfu, ↓zfb, ↓zdj, ↓zcd, ↓zdk, ↓zbl, ↓zdy, ↓zcf, ↓zdz, ↓zcg, ↓zbz, ↓zcc, ↓zdi, ↓zei, ↓zeh, ↓zdx, ↓zdw, ↓zdu, ↓zdq, ↓zea, ↓zcs, ↓zct, ↓zen, ↓zbg, ↓zcv, ↓zcu, ↓zcx, ↓zce, ↓reduceIte, and_self, ↓zbt, ↓zcq, ↓zbs, ↓zbm, ↓zdl, ↓zdf, ↓zby, ↓zec, ↓zed, ↓zee, ↓zef, ↓zdv, ↓zdt, ↓zem, ↓zek, ↓zel, ↓zej, ↓zcl, ↓zeb, ↓zck, ↓zcn, ↓zco, ↓zcm, ↓zbo, ↓zcp, ↓zbn, ↓zbq, ↓zbr, ↓zbp, ↓zal, ↓zak, ↓zai, ↓zba, ↓zaj, ↓zax, ↓zaw, ↓zau, ↓zbe, ↓zav, ↓zad, ↓zac, ↓zaa, ↓zay, ↓zab, ↓zap, ↓zao, ↓zam, ↓zbb, ↓zan, ↓zat, ↓zas, ↓zaq, ↓zbc, ↓zar, ↓zah, ↓zag, ↓zae, ↓zaz, ↓zaf, Bool.not_true, Bool.not_false, Bool.false_eq_true, zbf, zbd, ↓sl0, ↓sl1, ↓sl2, ↓sl3, ↓sl4, ↓sl5, ↓sl6, ↓sl7, ↓sl8, true_and, and_true, zbj, decide_true, decide_false, List.getElem?_cons_zero, List.getElem?_cons_succ, List.set_cons_zero, List.set_cons_succ, itD_of eI]
  refine for_sat (fun _ τ h' => h' = h ∧ ∃ i z, τ = [some d, some (.int i), z]) ⟨rfl, _, _, rfl⟩ (fun i τ h' _ ⟨e, _⟩ => e ▸ hg) (fun i τ h' x hx ⟨e, j, z, eτ⟩ => ?_) (fun τ h' ⟨e, j, z, eτ⟩ => ?_)
  · subst e eτ
    rw [ei, List.getElem?_map] at hx
    obtain ⟨y, rfl⟩ : ∃ y, x = D.int y := by
      cases q : ns[i]? with
      | none => rw [q] at hx; cases hx
      | some y => rw [q] at hx; cases hx; exact ⟨y, rfl⟩
    refine ⟨_, rfl, ?_⟩
    simp (maxSteps := 2000000) (disch := decide) only [↓zdg, ↓zbx, ↓FL.then_nx, ↓FL.then_rt, ↓FL.then_bk, ↓FL.then_ct, ↓zbu, ↓zbv, ↓zcz, ↓zew, ↓zdc, ↓zex, ↓zdd, ↓zbw, ↓zev, ↓zeu, ↓zet, ↓zcy, ↓zda, ↓zdb, ↓zde, ↓zey, ↓zes, ↓zbi, ↓zfx, ↓zfy, ↓zci, ↓zcj, ↓zfp, ↓zbh, ↓zfh, ↓zfn, ↓zga, ↓zfl, ↓zdp, ↓zdo, ↓zfm, ↓zff, ↓zfk, ↓zgc, ↓zfd, ↓zgd, ↓zfq, ↓or1, ↓and2, ↓or2, ↓zdr, ↓zfs, ↓zds, ↓zft, ↓zfg, ↓zeg, ↓zcr, ↓zfo, ↓zfj, ↓zgb, ↓zfr, ↓zer, ↓zbk, ↓zge, ↓zfz, ↓zfi, ↓zdm, ↓zfe, ↓zdn, ↓zca, ↓zcb, ↓zfa, ↓zfv, ↓zez, ↓zfw, ↓zfc, ↓zfu, ↓zfb, ↓zdj, ↓zcd, ↓zdk, ↓zbl, ↓zdy, ↓zcf, ↓zdz, ↓zcg, ↓zbz, ↓zcc, ↓zdi, ↓zei, ↓zeh, ↓zdx, ↓zdw, ↓zdu, ↓zdq, ↓zea, ↓zcs, ↓zct, ↓zen, ↓zbg, ↓zcv, ↓zcu, ↓zcx, ↓zce, ↓reduceIte, and_self, ↓zbt, ↓zcq, ↓zbs, ↓zbm, ↓zdl, ↓zdf, ↓zby, ↓zec, ↓zed, ↓zee, ↓zef, ↓zdv, ↓zdt, ↓zem, ↓zek, ↓zel, ↓zej, ↓zcl, ↓zeb, ↓zck, ↓zcn, ↓zco, ↓zcm, ↓zbo, ↓zcp, ↓zbn, ↓zbq, ↓zbr, ↓zbp, ↓zal, ↓zak, ↓zai, ↓zba, ↓zaj, ↓zax, ↓zaw, ↓zau, ↓zbe, ↓zav, ↓zad, ↓zac, ↓zaa, ↓zay, ↓zab, ↓zap, ↓zao, ↓zam, ↓zbb, ↓zan, ↓zat, ↓zas, ↓zaq, ↓zbc, ↓zar, ↓zah, ↓zag, ↓zae, ↓zaz, ↓zaf, Bool.not_true, Bool.not_false, Bool.false_eq_true, zbf, zbd, ↓sl0, ↓sl1, ↓sl2, ↓sl3, ↓sl4, ↓sl5, ↓sl6, ↓sl7, ↓sl8, true_and, and_true, zbj, decide_true, decide_false, List.getElem?_cons_zero, List.getElem?_cons_succ, List.set_cons_zero, List.set_cons_succ]
    exact ⟨_, _, rfl⟩
  · subst e eτ
    simp (maxSteps := 2000000) (disch := decide) only [↓zdg, ↓zbx, ↓FL.then_nx, ↓FL.then_rt, ↓FL.then_bk, ↓FL.then_ct, ↓zbu, ↓zbv, ↓zcz, ↓zew, ↓zdc, ↓zex, ↓zdd, ↓zbw, ↓zev, ↓zeu, ↓zet, ↓zcy, ↓zda, ↓zdb, ↓zde, ↓zey, ↓zes, ↓zbi, ↓zfx, ↓zfy, ↓zci, ↓zcj, ↓zfp, ↓zbh, ↓zfh, ↓zfn, ↓zga, ↓zfl, ↓zdp, ↓zdo, ↓zfm, ↓zff, ↓zfk, ↓zgc, ↓zfd, ↓zgd, ↓zfq, ↓or1, ↓and2, ↓or2, ↓zdr, ↓zfs, ↓zds, ↓zft, ↓zfg, ↓zeg, ↓zcr, ↓zfo, ↓zfj, ↓zgb, ↓zfr, ↓zer, ↓zbk, ↓zge, ↓zfz, ↓zfi, ↓zdm, ↓zfe, ↓zdn, ↓zca, ↓zcb, ↓zfa, ↓zfv, ↓zez, ↓zfw, ↓zfc, ↓zfu, ↓zfb, ↓zdj, ↓zcd, ↓zdk, ↓zbl, ↓zdy, ↓zcf, ↓zdz, ↓zcg, ↓zbz, ↓zcc, ↓zdi, ↓zei, ↓zeh, ↓zdx, ↓zdw, ↓zdu, ↓zdq, ↓zea, ↓zcs, ↓zct, ↓zen, ↓zbg, ↓zcv, ↓zcu, ↓zcx, ↓zce, ↓reduceIte, and_self, ↓zbt, ↓zcq, ↓zbs, ↓zbm, ↓zdl, ↓zdf, ↓zby, ↓zec, ↓zed, ↓zee, ↓zef, ↓zdv, ↓zdt, ↓zem, ↓zek, ↓zel, ↓zej, ↓zcl, ↓zeb, ↓zck, ↓zcn, ↓zco, ↓zcm, ↓zbo, ↓zcp, ↓zbn, ↓zbq, ↓zbr, ↓zbp, ↓zal, ↓zak, ↓zai, ↓zba, ↓zaj, ↓zax, ↓zaw, ↓zau, ↓zbe, ↓zav, ↓zad, ↓zac, ↓zaa, ↓zay, ↓zab, ↓zap, ↓zao, ↓zam, ↓zbb, ↓zan, ↓zat, ↓zas, ↓zaq, ↓zbc, ↓zar, ↓zah, ↓zag, ↓zae, ↓zaz, ↓zaf, Bool.not_true, Bool.not_false, Bool.false_eq_true, zbf, zbd, ↓sl0, ↓sl1, ↓sl2, ↓sl3, ↓sl4, ↓sl5, ↓sl6, ↓sl7, ↓sl8, true_and, and_true, zbj, decide_true, decide_false, List.getElem?_cons_zero, List.getElem?_cons_succ, List.set_cons_zero, List.set_cons_succ, ↓list_v es]
    refine ⟨_, rfl, ?_⟩
    refine ⟨h'.length, 0, 0, j, ns, app_new, ?_, ?_, by decide, hn⟩
    · rw [List.append_assoc]; simp
    · simp
/-- a scalar, an element -/
inductive Sc : D → Prop
  | int (i : Int) : Sc (.int i)
  | str (x : Str) (h : x.length ≤ 40) : Sc (.str x)
inductive El : D → Prop
  | sc {d : D} (h : Sc d) : El d
  | pair {a b : D} (h1 : Sc a) (h2 : Sc b) : El (.tup [a, b])
theorem signs_len : ("abcdefghijklmnopqrstuvwxyzABCDEFGHIJKLMNOPQRSTUVWXYZ0123456789 !\"#$&'()*+,-./:;<=>?\x40[\\]^_`{|}~" : Str).cps.toList.length = 94 := by decide +kernel
theorem tT6_4 : tT16 14 = fF14 := rfl
theorem scalar_sat {t : Nat} {h : Hd} (T : Tape t h) : (fF16 [.ref t] h).sat fun d h' => Sc d ∧ Tape t h' ∧ Fr t h h' := by
  refine runP_v (σ := [some (.ref t), none, none, none, none, none]) (by rfl) (by rfl) ?_
  unfold bB16
  try simp (maxSteps := 2000000) (disch := decide) only [↓zdg, ↓zbx, ↓FL.then_nx, ↓FL.then_rt, ↓FL.then_bk, ↓FL.then_ct, ↓zbu, ↓zbv, ↓zcz, ↓zew, ↓zdc, ↓zex, ↓zdd, ↓zbw, ↓zev, ↓zeu, ↓zet, ↓zcy, ↓zda, ↓zdb, ↓zde, ↓zey, ↓zes, ↓zbi, ↓zfx, ↓zfy, ↓zci, ↓zcj, ↓zfp, ↓zbh, ↓zfh, ↓zfn, ↓zga, ↓zfl, ↓zdp, ↓zdo, ↓zfm, ↓zff, ↓zfk, ↓zgc, ↓zfd, ↓zgd, ↓zfq, ↓or1, ↓and2, ↓or2, ↓zdr, ↓zfs, ↓zds, ↓zft, ↓zfg, ↓zeg, ↓zcr, ↓zfo, ↓zfj, ↓zgb, ↓zfr, ↓zer, ↓zbk, ↓zge, ↓zfz, ↓zfi, ↓zdm, ↓zfe, ↓zdn, ↓zca, ↓zcb, ↓zfa, ↓zfv, ↓zez, ↓zfw, ↓zfc, ↓zfu, ↓zfb, ↓zdj, ↓zcd, ↓zdk, ↓zbl, ↓zdy, ↓zcf, ↓zdz, ↓zcg, ↓zbz, ↓zcc, ↓zdi, ↓zei, ↓zeh, ↓zdx, ↓zdw, ↓zdu, ↓zdq, ↓zea, ↓zcs, ↓zct, ↓zen, ↓zbg, ↓zcv, ↓zcu, ↓zcx, ↓zce, ↓reduceIte, and_self, ↓zbt, ↓zcq, ↓zbs, ↓zbm, ↓zdl, ↓zdf, ↓zby, ↓zec, ↓zed, ↓zee, ↓zef, ↓zdv, ↓zdt, ↓zem, ↓zek, ↓zel, ↓zej, ↓zcl, ↓zeb, ↓zck, ↓zcn, ↓zco, ↓zcm, ↓zbo, ↓zcp, ↓zbn, ↓zbq, ↓zbr, ↓zbp, ↓zal, ↓zak, ↓zai, ↓zba, ↓zaj, ↓zax, ↓zaw, ↓zau, ↓zbe, ↓zav, ↓zad, ↓zac, ↓zaa, ↓zay, ↓zab, ↓zap, ↓zao, ↓zam, ↓zbb, ↓zan, ↓zat, ↓zas, ↓zaq, ↓zbc, ↓zar, ↓zah, ↓zag, ↓zae, ↓zaz, ↓zaf, Bool.not_true, Bool.not_false, Bool.false_eq_true, zbf, zbd, ↓sl0, ↓sl1, ↓sl2, ↓sl3, ↓sl4, ↓sl5, ↓sl6, ↓sl7, ↓sl8, true_and, and_true, zbj, decide_true, decide_false, List.getElem?_cons_zero, List.getElem?_cons_succ, List.set_cons_zero, List.set_cons_succ, tT6_4]
  refine draw_v T (by decide) (by decide) fun v h1 v0 v1 T1 f1 => ?_
  try simp (maxSteps := 2000000) (disch := decide) only [↓zdg, ↓zbx, ↓FL.then_nx, ↓FL.then_rt, ↓FL.then_bk, ↓FL.then_ct, ↓zbu, ↓zbv, ↓zcz, ↓zew, ↓zdc, ↓zex, ↓zdd, ↓zbw, ↓zev, ↓zeu, ↓zet, ↓zcy, ↓zda, ↓zdb, ↓zde, ↓zey, ↓zes, ↓zbi, ↓zfx, ↓zfy, ↓zci, ↓zcj, ↓zfp, ↓zbh, ↓zfh, ↓zfn, ↓zga, ↓zfl, ↓zdp, ↓zdo, ↓zfm, ↓zff, ↓zfk, ↓zgc, ↓zfd, ↓zgd, ↓zfq, ↓or1, ↓and2, ↓or2, ↓zdr, ↓zfs, ↓zds, ↓zft, ↓zfg, ↓zeg, ↓zcr, ↓zfo, ↓zfj, ↓zgb, ↓zfr, ↓zer, ↓zbk, ↓zge, ↓zfz, ↓zfi, ↓zdm, ↓zfe, ↓zdn, ↓zca, ↓zcb, ↓zfa, ↓zfv, ↓zez, ↓zfw, ↓zfc, ↓zfu, ↓zfb, ↓zdj, ↓zcd, ↓zdk, ↓zbl, ↓zdy, ↓zcf, ↓zdz, ↓zcg, ↓zbz, ↓zcc, ↓zdi, ↓zei, ↓zeh, ↓zdx, ↓zdw, ↓zdu, ↓zdq, ↓zea, ↓zcs, ↓zct, ↓zen, ↓zbg, ↓zcv, ↓zcu, ↓zcx, ↓zce, ↓reduceIte, and_self, ↓zbt, ↓zcq, ↓zbs, ↓zbm, ↓zdl, ↓zdf, ↓zby, ↓zec, ↓zed, ↓zee, ↓zef, ↓zdv, ↓zdt, ↓zem, ↓zek, ↓zel, ↓zej, ↓zcl, ↓zeb, ↓zck, ↓zcn, ↓zco, ↓zcm, ↓zbo, ↓zcp, ↓zbn, ↓zbq, ↓zbr, ↓zbp, ↓zal, ↓zak, ↓zai, ↓zba, ↓zaj, ↓zax, ↓zaw, ↓zau, ↓zbe, ↓zav, ↓zad, ↓zac, ↓zaa, ↓zay, ↓zab, ↓zap, ↓zao, ↓zam, ↓zbb, ↓zan, ↓zat, ↓zas, ↓zaq, ↓zbc, ↓zar, ↓zah, ↓zag, ↓zae, ↓zaz, ↓zaf, Bool.not_true, Bool.not_false, Bool.false_eq_true, zbf, zbd, ↓sl0, ↓sl1, ↓sl2, ↓sl3, ↓sl4, ↓sl5, ↓sl6, ↓sl7, ↓sl8, true_and, and_true, zbj, decide_true, decide_false, List.getElem?_cons_zero, List.getElem?_cons_succ, List.set_cons_zero, List.set_cons_succ, tT6_4]
  split
  · refine draw_v T1 (by decide) (by decide) fun v2 h2 _ _ T2 f2 => ?_
    try simp (maxSteps := 2000000) (disch := decide) only [↓zdg, ↓zbx, ↓FL.then_nx, ↓FL.then_rt, ↓FL.then_bk, ↓FL.then_ct, ↓zbu, ↓zbv, ↓zcz, ↓zew, ↓zdc, ↓zex, ↓zdd, ↓zbw, ↓zev, ↓zeu, ↓zet, ↓zcy, ↓zda, ↓zdb, ↓zde, ↓zey, ↓zes, ↓zbi, ↓zfx, ↓zfy, ↓zci, ↓zcj, ↓zfp, ↓zbh, ↓zfh, ↓zfn, ↓zga, ↓zfl, ↓zdp, ↓zdo, ↓zfm, ↓zff, ↓zfk, ↓zgc, ↓zfd, ↓zgd, ↓zfq, ↓or1, ↓and2, ↓or2, ↓zdr, ↓zfs, ↓zds, ↓zft, ↓zfg, ↓zeg, ↓zcr, ↓zfo, ↓zfj, ↓zgb, ↓zfr, ↓zer, ↓zbk, ↓zge, ↓zfz, ↓zfi, ↓zdm, ↓zfe, ↓zdn, ↓zca, ↓zcb, ↓zfa, ↓zfv, ↓zez, ↓zfw, ↓zfc, ↓zfu, ↓zfb, ↓zdj, ↓zcd, ↓zdk, ↓zbl, ↓zdy, ↓zcf, ↓zdz, ↓zcg, ↓zbz, ↓zcc, ↓zdi, ↓zei, ↓zeh, ↓zdx, ↓zdw, ↓zdu, ↓zdq, ↓zea, ↓zcs, ↓zct, ↓zen, ↓zbg, ↓zcv, ↓zcu, ↓zcx, ↓zce, ↓reduceIte, and_self, ↓zbt, ↓zcq, ↓zbs, ↓zbm, ↓zdl, ↓zdf, ↓zby, ↓zec, ↓zed, ↓zee, ↓zef, ↓zdv, ↓zdt, ↓zem, ↓zek, ↓zel, ↓zej, ↓zcl, ↓zeb, ↓zck, ↓zcn, ↓zco, ↓zcm, ↓zbo, ↓zcp, ↓zbn, ↓zbq, ↓zbr, ↓zbp, ↓zal, ↓zak, ↓zai, ↓zba, ↓zaj, ↓zax, ↓zaw, ↓zau, ↓zbe, ↓zav, ↓zad, ↓zac, ↓zaa, ↓zay, ↓zab, ↓zap, ↓zao, ↓zam, ↓zbb, ↓zan, ↓zat, ↓zas, ↓zaq, ↓zbc, ↓zar, ↓zah, ↓zag, ↓zae, ↓zaz, ↓zaf, Bool.not_true, Bool.not_false, Bool.false_eq_true, zbf, zbd, ↓sl0, ↓sl1, ↓sl2, ↓sl3, ↓sl4, ↓sl5, ↓sl6, ↓sl7, ↓sl8, true_and, and_true, zbj, decide_true, decide_false, List.getElem?_cons_zero, List.getElem?_cons_succ, List.set_cons_zero, List.set_cons_succ, tT6_4]
    exact ⟨.int _, T2, f1.trans f2⟩
  · split
    · refine draw_v T1 (by decide) (by decide) fun v2 h2 _ _ T2 f2 => ?_
      try simp (maxSteps := 2000000) (disch := decide) only [↓zdg, ↓zbx, ↓FL.then_nx, ↓FL.then_rt, ↓FL.then_bk, ↓FL.then_ct, ↓zbu, ↓zbv, ↓zcz, ↓zew, ↓zdc, ↓zex, ↓zdd, ↓zbw, ↓zev, ↓zeu, ↓zet, ↓zcy, ↓zda, ↓zdb, ↓zde, ↓zey, ↓zes, ↓zbi, ↓zfx, ↓zfy, ↓zci, ↓zcj, ↓zfp, ↓zbh, ↓zfh, ↓zfn, ↓zga, ↓zfl, ↓zdp, ↓zdo, ↓zfm, ↓zff, ↓zfk, ↓zgc, ↓zfd, ↓zgd, ↓zfq, ↓or1, ↓and2, ↓or2, ↓zdr, ↓zfs, ↓zds, ↓zft, ↓zfg, ↓zeg, ↓zcr, ↓zfo, ↓zfj, ↓zgb, ↓zfr, ↓zer, ↓zbk, ↓zge, ↓zfz, ↓zfi, ↓zdm, ↓zfe, ↓zdn, ↓zca, ↓zcb, ↓zfa, ↓zfv, ↓zez, ↓zfw, ↓zfc, ↓zfu, ↓zfb, ↓zdj, ↓zcd, ↓zdk, ↓zbl, ↓zdy, ↓zcf, ↓zdz, ↓zcg, ↓zbz, ↓zcc, ↓zdi, ↓zei, ↓zeh, ↓zdx, ↓zdw, ↓zdu, ↓zdq, ↓zea, ↓zcs, ↓zct, ↓zen, ↓zbg, ↓zcv, ↓zcu, ↓zcx, ↓zce, ↓reduceIte, and_self, ↓zbt, ↓zcq, ↓zbs, ↓zbm, ↓zdl, ↓zdf, ↓zby, ↓zec, ↓zed, ↓zee, ↓zef, ↓zdv, ↓zdt, ↓zem, ↓zek, ↓zel, ↓zej, ↓zcl, ↓zeb, ↓zck, ↓zcn, ↓zco, ↓zcm, ↓zbo, ↓zcp, ↓zbn, ↓zbq, ↓zbr, ↓zbp, ↓zal, ↓zak, ↓zai, ↓zba, ↓zaj, ↓zax, ↓zaw, ↓zau, ↓zbe, ↓zav, ↓zad, ↓zac, ↓zaa, ↓zay, ↓zab, ↓zap, ↓zao, ↓zam, ↓zbb, ↓zan, ↓zat, ↓zas, ↓zaq, ↓zbc, ↓zar, ↓zah, ↓zag, ↓zae, ↓zaz, ↓zaf, Bool.not_true, Bool.not_false, Bool.false_eq_true, zbf, zbd, ↓sl0, ↓sl1, ↓sl2, ↓sl3, ↓sl4, ↓sl5, ↓sl6, ↓sl7, ↓sl8, true_and, and_true, zbj, decide_true, decide_false, List.getElem?_cons_zero, List.getElem?_cons_succ, List.set_cons_zero, List.set_cons_succ, tT6_4]
      skip
      refine draw_v T2.app (by decide) (by decide) fun v3 h3 a3 b3 T3 f3 => ?_
      refine ix_lit (Fr.new T2 f3) a3 b3 fun d hd => ?_
      refine ⟨?_, T3, (f1.trans f2).trans (Fr.app.trans f3)⟩
      simp only [List.mem_cons, List.not_mem_nil, or_false] at hd
      rcases hd with rfl | rfl | rfl | rfl | rfl <;> exact .int _
    · skip
      refine draw_v T1.app (by decide) (by decide) fun v3 h3 a3 b3 T3 f3 => ?_
      refine ix_lit (Fr.new T1 f3) a3 b3 fun d hd => ?_
      have hx : ∃ x : Str, d = .str x ∧ x.length ≤ 20 := by
        simp only [List.mem_cons, List.not_mem_nil, or_false] at hd
        rcases hd with rfl | rfl | rfl | rfl <;> exact ⟨_, rfl, by decide +kernel⟩
      obtain ⟨x, rfl, hl⟩ := hx
      try simp (maxSteps := 2000000) (disch := decide) only [↓zdg, ↓zbx, ↓FL.then_nx, ↓FL.then_rt, ↓FL.then_bk, ↓FL.then_ct, ↓zbu, ↓zbv, ↓zcz, ↓zew, ↓zdc, ↓zex, ↓zdd, ↓zbw, ↓zev, ↓zeu, ↓zet, ↓zcy, ↓zda, ↓zdb, ↓zde, ↓zey, ↓zes, ↓zbi, ↓zfx, ↓zfy, ↓zci, ↓zcj, ↓zfp, ↓zbh, ↓zfh, ↓zfn, ↓zga, ↓zfl, ↓zdp, ↓zdo, ↓zfm, ↓zff, ↓zfk, ↓zgc, ↓zfd, ↓zgd, ↓zfq, ↓or1, ↓and2, ↓or2, ↓zdr, ↓zfs, ↓zds, ↓zft, ↓zfg, ↓zeg, ↓zcr, ↓zfo, ↓zfj, ↓zgb, ↓zfr, ↓zer, ↓zbk, ↓zge, ↓zfz, ↓zfi, ↓zdm, ↓zfe, ↓zdn, ↓zca, ↓zcb, ↓zfa, ↓zfv, ↓zez, ↓zfw, ↓zfc, ↓zfu, ↓zfb, ↓zdj, ↓zcd, ↓zdk, ↓zbl, ↓zdy, ↓zcf, ↓zdz, ↓zcg, ↓zbz, ↓zcc, ↓zdi, ↓zei, ↓zeh, ↓zdx, ↓zdw, ↓zdu, ↓zdq, ↓zea, ↓zcs, ↓zct, ↓zen, ↓zbg, ↓zcv, ↓zcu, ↓zcx, ↓zce, ↓reduceIte, and_self, ↓zbt, ↓zcq, ↓zbs, ↓zbm, ↓zdl, ↓zdf, ↓zby, ↓zec, ↓zed, ↓zee, ↓zef, ↓zdv, ↓zdt, ↓zem, ↓zek, ↓zel, ↓zej, ↓zcl, ↓zeb, ↓zck, ↓zcn, ↓zco, ↓zcm, ↓zbo, ↓zcp, ↓zbn, ↓zbq, ↓zbr, ↓zbp, ↓zal, ↓zak, ↓zai, ↓zba, ↓zaj, ↓zax, ↓zaw, ↓zau, ↓zbe, ↓zav, ↓zad, ↓zac, ↓zaa, ↓zay, ↓zab, ↓zap, ↓zao, ↓zam, ↓zbb, ↓zan, ↓zat, ↓zas, ↓zaq, ↓zbc, ↓zar, ↓zah, ↓zag, ↓zae, ↓zaz, ↓zaf, Bool.not_true, Bool.not_false, Bool.false_eq_true, zbf, zbd, ↓sl0, ↓sl1, ↓sl2, ↓sl3, ↓sl4, ↓sl5, ↓sl6, ↓sl7, ↓sl8, true_and, and_true, zbj, decide_true, decide_false, List.getElem?_cons_zero, List.getElem?_cons_succ, List.set_cons_zero, List.set_cons_succ, tT6_4]
      skip
      refine draw_v T3.app (by decide) (by decide) fun v4 h4 a4 b4 T4 f4 => ?_
      refine ix_lit (Fr.new T3 f4) a4 b4 fun k hk => ?_
      have hk : ∃ n : Nat, k = .int n ∧ n ≤ 6 := by
        simp only [List.mem_cons, List.not_mem_nil, or_false] at hk
        rcases hk with rfl | rfl | rfl | rfl | rfl | rfl
        · exact ⟨0, rfl, by decide⟩
        · exact ⟨1, rfl, by decide⟩
        · exact ⟨1, rfl, by decide⟩
        · exact ⟨2, rfl, by decide⟩
        · exact ⟨3, rfl, by decide⟩
        · exact ⟨6, rfl, by decide⟩
      obtain ⟨n, rfl, hn⟩ := hk
      refine rngD_nat (by omega) ?_
      have fb : Fr t h h4 := ((f1.trans (Fr.app.trans f3)).trans Fr.app).trans f4
      refine for_sat (fun i τ h' => Tape t h' ∧ Fr t h h' ∧ ∃ (y : Str) (z : Option D), τ = [some (.ref t), some (.str _), some (.int v), none, some (.str y), z] ∧ y.length ≤ 20 + i) ⟨T4, fb, x, _, rfl, hl⟩ (fun _ _ _ _ _ _ z => nomatch z) (fun i τ h' d hd ⟨T', f', y, z, eτ, hy⟩ => ?_) fun τ h' ⟨T', f', y, z, eτ, hy⟩ => ?_
      · subst eτ
        refine ⟨_, rfl, ?_⟩
        have hi : i < 6 := by
          have := (List.getElem?_eq_some_iff.mp hd).1
          simp at this; omega
        try simp (maxSteps := 2000000) (disch := decide) only [↓zdg, ↓zbx, ↓FL.then_nx, ↓FL.then_rt, ↓FL.then_bk, ↓FL.then_ct, ↓zbu, ↓zbv, ↓zcz, ↓zew, ↓zdc, ↓zex, ↓zdd, ↓zbw, ↓zev, ↓zeu, ↓zet, ↓zcy, ↓zda, ↓zdb, ↓zde, ↓zey, ↓zes, ↓zbi, ↓zfx, ↓zfy, ↓zci, ↓zcj, ↓zfp, ↓zbh, ↓zfh, ↓zfn, ↓zga, ↓zfl, ↓zdp, ↓zdo, ↓zfm, ↓zff, ↓zfk, ↓zgc, ↓zfd, ↓zgd, ↓zfq, ↓or1, ↓and2, ↓or2, ↓zdr, ↓zfs, ↓zds, ↓zft, ↓zfg, ↓zeg, ↓zcr, ↓zfo, ↓zfj, ↓zgb, ↓zfr, ↓zer, ↓zbk, ↓zge, ↓zfz, ↓zfi, ↓zdm, ↓zfe, ↓zdn, ↓zca, ↓zcb, ↓zfa, ↓zfv, ↓zez, ↓zfw, ↓zfc, ↓zfu, ↓zfb, ↓zdj, ↓zcd, ↓zdk, ↓zbl, ↓zdy, ↓zcf, ↓zdz, ↓zcg, ↓zbz, ↓zcc, ↓zdi, ↓zei, ↓zeh, ↓zdx, ↓zdw, ↓zdu, ↓zdq, ↓zea, ↓zcs, ↓zct, ↓zen, ↓zbg, ↓zcv, ↓zcu, ↓zcx, ↓zce, ↓reduceIte, and_self, ↓zbt, ↓zcq, ↓zbs, ↓zbm, ↓zdl, ↓zdf, ↓zby, ↓zec, ↓zed, ↓zee, ↓zef, ↓zdv, ↓zdt, ↓zem, ↓zek, ↓zel, ↓zej, ↓zcl, ↓zeb, ↓zck, ↓zcn, ↓zco, ↓zcm, ↓zbo, ↓zcp, ↓zbn, ↓zbq, ↓zbr, ↓zbp, ↓zal, ↓zak, ↓zai, ↓zba, ↓zaj, ↓zax, ↓zaw, ↓zau, ↓zbe, ↓zav, ↓zad, ↓zac, ↓zaa, ↓zay, ↓zab, ↓zap, ↓zao, ↓zam, ↓zbb, ↓zan, ↓zat, ↓zas, ↓zaq, ↓zbc, ↓zar, ↓zah, ↓zag, ↓zae, ↓zaz, ↓zaf, Bool.not_true, Bool.not_false, Bool.false_eq_true, zbf, zbd, ↓sl0, ↓sl1, ↓sl2, ↓sl3, ↓sl4, ↓sl5, ↓sl6, ↓sl7, ↓sl8, true_and, and_true, zbj, decide_true, decide_false, List.getElem?_cons_zero, List.getElem?_cons_succ, List.set_cons_zero, List.set_cons_succ, tT6_4]
        refine draw_v T' (by decide) (by decide) fun v5 h5 a5 b5 T5 f5 => ?_
        obtain ⟨j, rfl⟩ := Int.eq_ofNat_of_zero_le a5
        have hj : j < ("abcdefghijklmnopqrstuvwxyzABCDEFGHIJKLMNOPQRSTUVWXYZ0123456789 !\"#$&'()*+,-./:;<=>?\x40[\\]^_`{|}~" : Str).cps.toList.length := by rw [signs_len]; omega
        refine (ix_str (by decide +kernel) (atI_nat (List.getElem?_eq_getElem hj))).mpr ?_
        refine (add_ss (by rw [sizeLine_eq]; show _ + 1 ≤ _; omega)).mpr ?_
        refine ⟨T5, f'.trans f5, _, _, rfl, ?_⟩
        rw [Str.length_append]
        show y.length + 1 ≤ _
        omega
      · subst eτ
        try simp (maxSteps := 2000000) (disch := decide) only [↓zdg, ↓zbx, ↓FL.then_nx, ↓FL.then_rt, ↓FL.then_bk, ↓FL.then_ct, ↓zbu, ↓zbv, ↓zcz, ↓zew, ↓zdc, ↓zex, ↓zdd, ↓zbw, ↓zev, ↓zeu, ↓zet, ↓zcy, ↓zda, ↓zdb, ↓zde, ↓zey, ↓zes, ↓zbi, ↓zfx, ↓zfy, ↓zci, ↓zcj, ↓zfp, ↓zbh, ↓zfh, ↓zfn, ↓zga, ↓zfl, ↓zdp, ↓zdo, ↓zfm, ↓zff, ↓zfk, ↓zgc, ↓zfd, ↓zgd, ↓zfq, ↓or1, ↓and2, ↓or2, ↓zdr, ↓zfs, ↓zds, ↓zft, ↓zfg, ↓zeg, ↓zcr, ↓zfo, ↓zfj, ↓zgb, ↓zfr, ↓zer, ↓zbk, ↓zge, ↓zfz, ↓zfi, ↓zdm, ↓zfe, ↓zdn, ↓zca, ↓zcb, ↓zfa, ↓zfv, ↓zez, ↓zfw, ↓zfc, ↓zfu, ↓zfb, ↓zdj, ↓zcd, ↓zdk, ↓zbl, ↓zdy, ↓zcf, ↓zdz, ↓zcg, ↓zbz, ↓zcc, ↓zdi, ↓zei, ↓zeh, ↓zdx, ↓zdw, ↓zdu, ↓zdq, ↓zea, ↓zcs, ↓zct, ↓zen, ↓zbg, ↓zcv, ↓zcu, ↓zcx, ↓zce, ↓reduceIte, and_self, ↓zbt, ↓zcq, ↓zbs, ↓zbm, ↓zdl, ↓zdf, ↓zby, ↓zec, ↓zed, ↓zee, ↓zef, ↓zdv, ↓zdt, ↓zem, ↓zek, ↓zel, ↓zej, ↓zcl, ↓zeb, ↓zck, ↓zcn, ↓zco, ↓zcm, ↓zbo, ↓zcp, ↓zbn, ↓zbq, ↓zbr, ↓zbp, ↓zal, ↓zak, ↓zai, ↓zba, ↓zaj, ↓zax, ↓zaw, ↓zau, ↓zbe, ↓zav, ↓zad, ↓zac, ↓zaa, ↓zay, ↓zab, ↓zap, ↓zao, ↓zam, ↓zbb, ↓zan, ↓zat, ↓zas, ↓zaq, ↓zbc, ↓zar, ↓zah, ↓zag, ↓zae, ↓zaz, ↓zaf, Bool.not_true, Bool.not_false, Bool.false_eq_true, zbf, zbd, ↓sl0, ↓sl1, ↓sl2, ↓sl3, ↓sl4, ↓sl5, ↓sl6, ↓sl7, ↓sl8, true_and, and_true, zbj, decide_true, decide_false, List.getElem?_cons_zero, List.getElem?_cons_succ, List.set_cons_zero, List.set_cons_succ, tT6_4]
        refine ⟨.str y ?_, T', f'⟩
        simp at hy; omega
theorem tT7_4 : tT17 14 = fF14 := rfl
theorem tT7_6 : tT17 16 = fF16 := rfl
theorem scalar_v {t : Nat} {h : Hd} {P : D → Hd → Prop} (T : Tape t h) (q : ∀ d h1, Sc d → Tape t h1 → Fr t h h1 → P d h1) : vC (E := E) fF16 [.ref t] h P := vC.mono (scalar_sat T) fun d h1 ⟨a, b, c⟩ => q d h1 a b c
theorem element_sat {t : Nat} {h : Hd} (T : Tape t h) : (fF17 [.ref t] h).sat fun d h' => El d ∧ Tape t h' ∧ Fr t h h' := by
  refine runP_v (σ := [some (.ref t), none]) (by rfl) (by rfl) ?_
  unfold bB17
  try simp (maxSteps := 2000000) (disch := decide) only [↓zdg, ↓zbx, ↓FL.then_nx, ↓FL.then_rt, ↓FL.then_bk, ↓FL.then_ct, ↓zbu, ↓zbv, ↓zcz, ↓zew, ↓zdc, ↓zex, ↓zdd, ↓zbw, ↓zev, ↓zeu, ↓zet, ↓zcy, ↓zda, ↓zdb, ↓zde, ↓zey, ↓zes, ↓zbi, ↓zfx, ↓zfy, ↓zci, ↓zcj, ↓zfp, ↓zbh, ↓zfh, ↓zfn, ↓zga, ↓zfl, ↓zdp, ↓zdo, ↓zfm, ↓zff, ↓zfk, ↓zgc, ↓zfd, ↓zgd, ↓zfq, ↓or1, ↓and2, ↓or2, ↓zdr, ↓zfs, ↓zds, ↓zft, ↓zfg, ↓zeg, ↓zcr, ↓zfo, ↓zfj, ↓zgb, ↓zfr, ↓zer, ↓zbk, ↓zge, ↓zfz, ↓zfi, ↓zdm, ↓zfe, ↓zdn, ↓zca, ↓zcb, ↓zfa, ↓zfv, ↓zez, ↓zfw, ↓zfc, ↓zfu, ↓zfb, ↓zdj, ↓zcd, ↓zdk, ↓zbl, ↓zdy, ↓zcf, ↓zdz, ↓zcg, ↓zbz, ↓zcc, ↓zdi, ↓zei, ↓zeh, ↓zdx, ↓zdw, ↓zdu, ↓zdq, ↓zea, ↓zcs, ↓zct, ↓zen, ↓zbg, ↓zcv, ↓zcu, ↓zcx, ↓zce, ↓reduceIte, and_self, ↓zbt, ↓zcq, ↓zbs, ↓zbm, ↓zdl, ↓zdf, ↓zby, ↓zec, ↓zed, ↓zee, ↓zef, ↓zdv, ↓zdt, ↓zem, ↓zek, ↓zel, ↓zej, ↓zcl, ↓zeb, ↓zck, ↓zcn, ↓zco, ↓zcm, ↓zbo, ↓zcp, ↓zbn, ↓zbq, ↓zbr, ↓zbp, ↓zal, ↓zak, ↓zai, ↓zba, ↓zaj, ↓zax, ↓zaw, ↓zau, ↓zbe, ↓zav, ↓zad, ↓zac, ↓zaa, ↓zay, ↓zab, ↓zap, ↓zao, ↓zam, ↓zbb, ↓zan, ↓zat, ↓zas, ↓zaq, ↓zbc, ↓zar, ↓zah, ↓zag, ↓zae, ↓zaz, ↓zaf, Bool.not_true, Bool.not_false, Bool.false_eq_true, zbf, zbd, ↓sl0, ↓sl1, ↓sl2, ↓sl3, ↓sl4, ↓sl5, ↓sl6, ↓sl7, ↓sl8, true_and, and_true, zbj, decide_true, decide_false, List.getElem?_cons_zero, List.getElem?_cons_succ, List.set_cons_zero, List.set_cons_succ, tT7_4, tT7_6]
  refine draw_v T (by decide) (by decide) fun v h1 v0 v1 T1 f1 => ?_
  try simp (maxSteps := 2000000) (disch := decide) only [↓zdg, ↓zbx, ↓FL.then_nx, ↓FL.then_rt, ↓FL.then_bk, ↓FL.then_ct, ↓zbu, ↓zbv, ↓zcz, ↓zew, ↓zdc, ↓zex, ↓zdd, ↓zbw, ↓zev, ↓zeu, ↓zet, ↓zcy, ↓zda, ↓zdb, ↓zde, ↓zey, ↓zes, ↓zbi, ↓zfx, ↓zfy, ↓zci, ↓zcj, ↓zfp, ↓zbh, ↓zfh, ↓zfn, ↓zga, ↓zfl, ↓zdp, ↓zdo, ↓zfm, ↓zff, ↓zfk, ↓zgc, ↓zfd, ↓zgd, ↓zfq, ↓or1, ↓and2, ↓or2, ↓zdr, ↓zfs, ↓zds, ↓zft, ↓zfg, ↓zeg, ↓zcr, ↓zfo, ↓zfj, ↓zgb, ↓zfr, ↓zer, ↓zbk, ↓zge, ↓zfz, ↓zfi, ↓zdm, ↓zfe, ↓zdn, ↓zca, ↓zcb, ↓zfa, ↓zfv, ↓zez, ↓zfw, ↓zfc, ↓zfu, ↓zfb, ↓zdj, ↓zcd, ↓zdk, ↓zbl, ↓zdy, ↓zcf, ↓zdz, ↓zcg, ↓zbz, ↓zcc, ↓zdi, ↓zei, ↓zeh, ↓zdx, ↓zdw, ↓zdu, ↓zdq, ↓zea, ↓zcs, ↓zct, ↓zen, ↓zbg, ↓zcv, ↓zcu, ↓zcx, ↓zce, ↓reduceIte, and_self, ↓zbt, ↓zcq, ↓zbs, ↓zbm, ↓zdl, ↓zdf, ↓zby, ↓zec, ↓zed, ↓zee, ↓zef, ↓zdv, ↓zdt, ↓zem, ↓zek, ↓zel, ↓zej, ↓zcl, ↓zeb, ↓zck, ↓zcn, ↓zco, ↓zcm, ↓zbo, ↓zcp, ↓zbn, ↓zbq, ↓zbr, ↓zbp, ↓zal, ↓zak, ↓zai, ↓zba, ↓zaj, ↓zax, ↓zaw, ↓zau, ↓zbe, ↓zav, ↓zad, ↓zac, ↓zaa, ↓zay, ↓zab, ↓zap, ↓zao, ↓zam, ↓zbb, ↓zan, ↓zat, ↓zas, ↓zaq, ↓zbc, ↓zar, ↓zah, ↓zag, ↓zae, ↓zaz, ↓zaf, Bool.not_true, Bool.not_false, Bool.false_eq_true, zbf, zbd, ↓sl0, ↓sl1, ↓sl2, ↓sl3, ↓sl4, ↓sl5, ↓sl6, ↓sl7, ↓sl8, true_and, and_true, zbj, decide_true, decide_false, List.getElem?_cons_zero, List.getElem?_cons_succ, List.set_cons_zero, List.set_cons_succ, tT7_4, tT7_6]
  split
  · refine scalar_v T1 fun a h2 sa T2 f2 => ?_
    try simp (maxSteps := 2000000) (disch := decide) only [↓zdg, ↓zbx, ↓FL.then_nx, ↓FL.then_rt, ↓FL.then_bk, ↓FL.then_ct, ↓zbu, ↓zbv, ↓zcz, ↓zew, ↓zdc, ↓zex, ↓zdd, ↓zbw, ↓zev, ↓zeu, ↓zet, ↓zcy, ↓zda, ↓zdb, ↓zde, ↓zey, ↓zes, ↓zbi, ↓zfx, ↓zfy, ↓zci, ↓zcj, ↓zfp, ↓zbh, ↓zfh, ↓zfn, ↓zga, ↓zfl, ↓zdp, ↓zdo, ↓zfm, ↓zff, ↓zfk, ↓zgc, ↓zfd, ↓zgd, ↓zfq, ↓or1, ↓and2, ↓or2, ↓zdr, ↓zfs, ↓zds, ↓zft, ↓zfg, ↓zeg, ↓zcr, ↓zfo, ↓zfj, ↓zgb, ↓zfr, ↓zer, ↓zbk, ↓zge, ↓zfz, ↓zfi, ↓zdm, ↓zfe, ↓zdn, ↓zca, ↓zcb, ↓zfa, ↓zfv, ↓zez, ↓zfw, ↓zfc, ↓zfu, ↓zfb, ↓zdj, ↓zcd, ↓zdk, ↓zbl, ↓zdy, ↓zcf, ↓zdz, ↓zcg, ↓zbz, ↓zcc, ↓zdi, ↓zei, ↓zeh, ↓zdx, ↓zdw, ↓zdu, ↓zdq, ↓zea, ↓zcs, ↓zct, ↓zen, ↓zbg, ↓zcv, ↓zcu, ↓zcx, ↓zce, ↓reduceIte, and_self, ↓zbt, ↓zcq, ↓zbs, ↓zbm, ↓zdl, ↓zdf, ↓zby, ↓zec, ↓zed, ↓zee, ↓zef, ↓zdv, ↓zdt, ↓zem, ↓zek, ↓zel, ↓zej, ↓zcl, ↓zeb, ↓zck, ↓zcn, ↓zco, ↓zcm, ↓zbo, ↓zcp, ↓zbn, ↓zbq, ↓zbr, ↓zbp, ↓zal, ↓zak, ↓zai, ↓zba, ↓zaj, ↓zax, ↓zaw, ↓zau, ↓zbe, ↓zav, ↓zad, ↓zac, ↓zaa, ↓zay, ↓zab, ↓zap, ↓zao, ↓zam, ↓zbb, ↓zan, ↓zat, ↓zas, ↓zaq, ↓zbc, ↓zar, ↓zah, ↓zag, ↓zae, ↓zaz, ↓zaf, Bool.not_true, Bool.not_false, Bool.false_eq_true, zbf, zbd, ↓sl0, ↓sl1, ↓sl2, ↓sl3, ↓sl4, ↓sl5, ↓sl6, ↓sl7, ↓sl8, true_and, and_true, zbj, decide_true, decide_false, List.getElem?_cons_zero, List.getElem?_cons_succ, List.set_cons_zero, List.set_cons_succ, tT7_4, tT7_6]
    refine scalar_v T2 fun b h3 sb T3 f3 => ?_
    try simp (maxSteps := 2000000) (disch := decide) only [↓zdg, ↓zbx, ↓FL.then_nx, ↓FL.then_rt, ↓FL.then_bk, ↓FL.then_ct, ↓zbu, ↓zbv, ↓zcz, ↓zew, ↓zdc, ↓zex, ↓zdd, ↓zbw, ↓zev, ↓zeu, ↓zet, ↓zcy, ↓zda, ↓zdb, ↓zde, ↓zey, ↓zes, ↓zbi, ↓zfx, ↓zfy, ↓zci, ↓zcj, ↓zfp, ↓zbh, ↓zfh, ↓zfn, ↓zga, ↓zfl, ↓zdp, ↓zdo, ↓zfm, ↓zff, ↓zfk, ↓zgc, ↓zfd, ↓zgd, ↓zfq, ↓or1, ↓and2, ↓or2, ↓zdr, ↓zfs, ↓zds, ↓zft, ↓zfg, ↓zeg, ↓zcr, ↓zfo, ↓zfj, ↓zgb, ↓zfr, ↓zer, ↓zbk, ↓zge, ↓zfz, ↓zfi, ↓zdm, ↓zfe, ↓zdn, ↓zca, ↓zcb, ↓zfa, ↓zfv, ↓zez, ↓zfw, ↓zfc, ↓zfu, ↓zfb, ↓zdj, ↓zcd, ↓zdk, ↓zbl, ↓zdy, ↓zcf, ↓zdz, ↓zcg, ↓zbz, ↓zcc, ↓zdi, ↓zei, ↓zeh, ↓zdx, ↓zdw, ↓zdu, ↓zdq, ↓zea, ↓zcs, ↓zct, ↓zen, ↓zbg, ↓zcv, ↓zcu, ↓zcx, ↓zce, ↓reduceIte, and_self, ↓zbt, ↓zcq, ↓zbs, ↓zbm, ↓zdl, ↓zdf, ↓zby, ↓zec, ↓zed, ↓zee, ↓zef, ↓zdv, ↓zdt, ↓zem, ↓zek, ↓zel, ↓zej, ↓zcl, ↓zeb, ↓zck, ↓zcn, ↓zco, ↓zcm, ↓zbo, ↓zcp, ↓zbn, ↓zbq, ↓zbr, ↓zbp, ↓zal, ↓zak, ↓zai, ↓zba, ↓zaj, ↓zax, ↓zaw, ↓zau, ↓zbe, ↓zav, ↓zad, ↓zac, ↓zaa, ↓zay, ↓zab, ↓zap, ↓zao, ↓zam, ↓zbb, ↓zan, ↓zat, ↓zas, ↓zaq, ↓zbc, ↓zar, ↓zah, ↓zag, ↓zae, ↓zaz, ↓zaf, Bool.not_true, Bool.not_false, Bool.false_eq_true, zbf, zbd, ↓sl0, ↓sl1, ↓sl2, ↓sl3, ↓sl4, ↓sl5, ↓sl6, ↓sl7, ↓sl8, true_and, and_true, zbj, decide_true, decide_false, List.getElem?_cons_zero, List.getElem?_cons_succ, List.set_cons_zero, List.set_cons_succ, tT7_4, tT7_6]
    exact ⟨.pair sa sb, T3, (f1.trans f2).trans f3⟩
  · refine scalar_v T1 fun a h2 sa T2 f2 => ?_
    exact ⟨.sc sa, T2, f1.trans f2⟩
theorem element_v {t : Nat} {h : Hd} {P : D → Hd → Prop} (T : Tape t h) (q : ∀ d h1, El d → Tape t h1 → Fr t h h1 → P d h1) : vC (E := E) fF17 [.ref t] h P := vC.mono (element_sat T) fun d h1 ⟨a, b, c⟩ => q d h1 a b c
end DL

set_option Elab.async false
set_option linter.all false
set_option maxRecDepth 100000
set_option maxHeartbeats 4000000
namespace DL
open PySem PySem.Spec PyProof.Rows L2
def Pool (p : Nat) (h : Hd) : Prop := ∃ ds, h[p]? = some (.lst ds) ∧ 0 < ds.length ∧ ds.length ≤ 6 ∧ ∀ d ∈ ds, El d
theorem Pool.fr {t p : Nat} {h h' : Hd} (q : Pool p h) (f : Fr t h h') (n : p ≠ t) : Pool p h' := let ⟨ds, e, r⟩ := q; ⟨ds, f.keep _ _ n e, r⟩
theorem tT8_4 : tT18 14 = fF14 := rfl
theorem tT8_7 : tT18 17 = fF17 := rfl
theorem pool_sat {t : Nat} {h : Hd} (T : Tape t h) : (fF18 [.ref t] h).sat fun d h' => ∃ p, d = .ref p ∧ p ≠ t ∧ Pool p h' ∧ Tape t h' ∧ Fr t h h' := by
  refine runP_v (σ := [some (.ref t), none]) (by rfl) (by rfl) ?_
  unfold bB18
  simp (maxSteps := 2000000) (disch := decide) only [↓zdg, ↓zbx, ↓FL.then_nx, ↓FL.then_rt, ↓FL.then_bk, ↓FL.then_ct, ↓zbu, ↓zbv, ↓zcz, ↓zew, ↓zdc, ↓zex, ↓zdd, ↓zbw, ↓zev, ↓zeu, ↓zet, ↓zcy, ↓zda, ↓zdb, ↓zde, ↓zey, ↓zes, ↓zbi, ↓zfx, ↓zfy, ↓zci, ↓zcj, ↓zfp, ↓zbh, ↓zfh, ↓zfn, ↓zga, ↓zfl, ↓zdp, ↓zdo, ↓zfm, ↓zff, ↓zfk, ↓zgc, ↓zfd, ↓zgd, ↓zfq, ↓or1, ↓and2, ↓or2, ↓zdr, ↓zfs, ↓zds, ↓zft, ↓zfg, ↓zeg, ↓zcr, ↓zfo, ↓zfj, ↓zgb, ↓zfr, ↓zer, ↓zbk, ↓zge, ↓zfz, ↓zfi, ↓zdm, ↓zfe, ↓zdn, ↓zca, ↓zcb, ↓zfa, ↓zfv, ↓zez, ↓zfw, ↓zfc, ↓zfu, ↓zfb, ↓zdj, ↓zcd, ↓zdk, ↓zbl, ↓zdy, ↓zcf, ↓zdz, ↓zcg, ↓zbz, ↓zcc, ↓zdi, ↓zei, ↓zeh, ↓zdx, ↓zdw, ↓zdu, ↓zdq, ↓zea, ↓zcs, ↓zct, ↓zen, ↓zbg, ↓zcv, ↓zcu, ↓zcx, ↓zce, ↓reduceIte, and_self, ↓zbt, ↓zcq, ↓zbs, ↓zbm, ↓zdl, ↓zdf, ↓zby, ↓zec, ↓zed, ↓zee, ↓zef, ↓zdv, ↓zdt, ↓zem, ↓zek, ↓zel, ↓zej, ↓zcl, ↓zeb, ↓zck, ↓zcn, ↓zco, ↓zcm, ↓zbo, ↓zcp, ↓zbn, ↓zbq, ↓zbr, ↓zbp, ↓zal, ↓zak, ↓zai, ↓zba, ↓zaj, ↓zax, ↓zaw, ↓zau, ↓zbe, ↓zav, ↓zad, ↓zac, ↓zaa, ↓zay, ↓zab, ↓zap, ↓zao, ↓zam, ↓zbb, ↓zan, ↓zat, ↓zas, ↓zaq, ↓zbc, ↓zar, ↓zah, ↓zag, ↓zae, ↓zaz, ↓zaf, Bool.not_true, Bool.not_false, Bool.false_eq_true, zbf, zbd, ↓sl0, ↓sl1, ↓sl2, ↓sl3, ↓sl4, ↓sl5, ↓sl6, ↓sl7, ↓sl8, true_and, and_true, zbj, decide_true, decide_false, List.getElem?_cons_zero, List.getElem?_cons_succ, List.set_cons_zero, List.set_cons_succ, tT8_4, tT8_7]
  refine draw_v T (by decide) (by decide) fun v h1 v0 v1 T1 f1 => ?_
  try simp (maxSteps := 2000000) (disch := decide) only [↓zdg, ↓zbx, ↓FL.then_nx, ↓FL.then_rt, ↓FL.then_bk, ↓FL.then_ct, ↓zbu, ↓zbv, ↓zcz, ↓zew, ↓zdc, ↓zex, ↓zdd, ↓zbw, ↓zev, ↓zeu, ↓zet, ↓zcy, ↓zda, ↓zdb, ↓zde, ↓zey, ↓zes, ↓zbi, ↓zfx, ↓zfy, ↓zci, ↓zcj, ↓zfp, ↓zbh, ↓zfh, ↓zfn, ↓zga, ↓zfl, ↓zdp, ↓zdo, ↓zfm, ↓zff, ↓zfk, ↓zgc, ↓zfd, ↓zgd, ↓zfq, ↓or1, ↓and2, ↓or2, ↓zdr, ↓zfs, ↓zds, ↓zft, ↓zfg, ↓zeg, ↓zcr, ↓zfo, ↓zfj, ↓zgb, ↓zfr, ↓zer, ↓zbk, ↓zge, ↓zfz, ↓zfi, ↓zdm, ↓zfe, ↓zdn, ↓zca, ↓zcb, ↓zfa, ↓zfv, ↓zez, ↓zfw, ↓zfc, ↓zfu, ↓zfb, ↓zdj, ↓zcd, ↓zdk, ↓zbl, ↓zdy, ↓zcf, ↓zdz, ↓zcg, ↓zbz, ↓zcc, ↓zdi, ↓zei, ↓zeh, ↓zdx, ↓zdw, ↓zdu, ↓zdq, ↓zea, ↓zcs, ↓zct, ↓zen, ↓zbg, ↓zcv, ↓zcu, ↓zcx, ↓zce, ↓reduceIte, and_self, ↓zbt, ↓zcq, ↓zbs, ↓zbm, ↓zdl, ↓zdf, ↓zby, ↓zec, ↓zed, ↓zee, ↓zef, ↓zdv, ↓zdt, ↓zem, ↓zek, ↓zel, ↓zej, ↓zcl, ↓zeb, ↓zck, ↓zcn, ↓zco, ↓zcm, ↓zbo, ↓zcp, ↓zbn, ↓zbq, ↓zbr, ↓zbp, ↓zal, ↓zak, ↓zai, ↓zba, ↓zaj, ↓zax, ↓zaw, ↓zau, ↓zbe, ↓zav, ↓zad, ↓zac, ↓zaa, ↓zay, ↓zab, ↓zap, ↓zao, ↓zam, ↓zbb, ↓zan, ↓zat, ↓zas, ↓zaq, ↓zbc, ↓zar, ↓zah, ↓zag, ↓zae, ↓zaz, ↓zaf, Bool.not_true, Bool.not_false, Bool.false_eq_true, zbf, zbd, ↓sl0, ↓sl1, ↓sl2, ↓sl3, ↓sl4, ↓sl5, ↓sl6, ↓sl7, ↓sl8, true_and, and_true, zbj, decide_true, decide_false, List.getElem?_cons_zero, List.getElem?_cons_succ, List.set_cons_zero, List.set_cons_succ, tT8_4, tT8_7]
  refine rngD_i (by omega) (by omega) ?_
  refine vCo_no (fun i acc h' => acc.length = i ∧ (∀ d ∈ acc, El d) ∧ Tape t h' ∧ Fr t h h') ⟨rfl, by simp, T1, f1⟩ (fun _ _ _ _ _ _ z => nomatch z) (fun i acc h' d hd ⟨hl, ha, T', f'⟩ => ?_) fun acc h' ⟨hl, ha, T', f'⟩ => ?_
  · refine ⟨_, rfl, ?_⟩
    try simp (maxSteps := 2000000) (disch := decide) only [↓zdg, ↓zbx, ↓FL.then_nx, ↓FL.then_rt, ↓FL.then_bk, ↓FL.then_ct, ↓zbu, ↓zbv, ↓zcz, ↓zew, ↓zdc, ↓zex, ↓zdd, ↓zbw, ↓zev, ↓zeu, ↓zet, ↓zcy, ↓zda, ↓zdb, ↓zde, ↓zey, ↓zes, ↓zbi, ↓zfx, ↓zfy, ↓zci, ↓zcj, ↓zfp, ↓zbh, ↓zfh, ↓zfn, ↓zga, ↓zfl, ↓zdp, ↓zdo, ↓zfm, ↓zff, ↓zfk, ↓zgc, ↓zfd, ↓zgd, ↓zfq, ↓or1, ↓and2, ↓or2, ↓zdr, ↓zfs, ↓zds, ↓zft, ↓zfg, ↓zeg, ↓zcr, ↓zfo, ↓zfj, ↓zgb, ↓zfr, ↓zer, ↓zbk, ↓zge, ↓zfz, ↓zfi, ↓zdm, ↓zfe, ↓zdn, ↓zca, ↓zcb, ↓zfa, ↓zfv, ↓zez, ↓zfw, ↓zfc, ↓zfu, ↓zfb, ↓zdj, ↓zcd, ↓zdk, ↓zbl, ↓zdy, ↓zcf, ↓zdz, ↓zcg, ↓zbz, ↓zcc, ↓zdi, ↓zei, ↓zeh, ↓zdx, ↓zdw, ↓zdu, ↓zdq, ↓zea, ↓zcs, ↓zct, ↓zen, ↓zbg, ↓zcv, ↓zcu, ↓zcx, ↓zce, ↓reduceIte, and_self, ↓zbt, ↓zcq, ↓zbs, ↓zbm, ↓zdl, ↓zdf, ↓zby, ↓zec, ↓zed, ↓zee, ↓zef, ↓zdv, ↓zdt, ↓zem, ↓zek, ↓zel, ↓zej, ↓zcl, ↓zeb, ↓zck, ↓zcn, ↓zco, ↓zcm, ↓zbo, ↓zcp, ↓zbn, ↓zbq, ↓zbr, ↓zbp, ↓zal, ↓zak, ↓zai, ↓zba, ↓zaj, ↓zax, ↓zaw, ↓zau, ↓zbe, ↓zav, ↓zad, ↓zac, ↓zaa, ↓zay, ↓zab, ↓zap, ↓zao, ↓zam, ↓zbb, ↓zan, ↓zat, ↓zas, ↓zaq, ↓zbc, ↓zar, ↓zah, ↓zag, ↓zae, ↓zaz, ↓zaf, Bool.not_true, Bool.not_false, Bool.false_eq_true, zbf, zbd, ↓sl0, ↓sl1, ↓sl2, ↓sl3, ↓sl4, ↓sl5, ↓sl6, ↓sl7, ↓sl8, true_and, and_true, zbj, decide_true, decide_false, List.getElem?_cons_zero, List.getElem?_cons_succ, List.set_cons_zero, List.set_cons_succ, wipeD, tT8_4, tT8_7]
    refine element_v T' fun x h2 ex T2 f2 => ?_
    exact ⟨by rw [List.length_append, hl]; rfl, snoc_all ha ex, T2, f'.trans f2⟩
  · rw [rng_len] at hl
    refine ⟨len_le (a := acc.length) (by omega) rfl, h'.length, rfl, Nat.ne_of_gt T'.lt, ⟨acc, app_new, by omega, by omega, ha⟩, T'.app, f'.trans .app⟩
/-- a draw out of the pool -/
theorem pick_v {E : XP} {t p : Nat} {h : Hd} {P : D → Hd → Prop} (T : Tape t h) (n : p ≠ t) (q : Pool p h) (r : ∀ d h1, El d → Tape t h1 → Fr t h h1 → P d h1) : vO (semB .len [.ref p] h) fun y h2 => vC (E := E) fF14 [.ref t, y] h2 fun z h3 => vO (semIx2 (.ref p) z h3) P := by
  obtain ⟨ds, e, l1, l2, a⟩ := q
  refine (len_ref e).mpr ?_
  refine draw_v T (by omega) (by omega) fun v h1 v0 v1 T1 f1 => ?_
  exact ix_lit (f1.keep _ _ n e) v0 v1 fun d hd => r d h1 (a d hd) T1 f1
def Cont (m : Int) (d : D) : Prop := ∃ ds, d = .tup ds ∧ (ds.length : Int) ≤ m ∧ ∀ x ∈ ds, El x
theorem tT9_4 : tT19 14 = fF14 := rfl
theorem contents_sat {t p : Nat} {m : Int} {h : Hd} (T : Tape t h) (n : p ≠ t) (q : Pool p h) (hm : 2 ≤ m) (hm2 : m ≤ 1000) : (fF19 [.ref t, .ref p, .int m] h).sat fun d h' => Cont m d ∧ Tape t h' ∧ Fr t h h' := by
  refine runP_v (σ := [some (.ref t), some (.ref p), some (.int m), none, none, none, none, none, none, none, none]) (by rfl) (by rfl) ?_
  unfold bB19
  refine ss_mid (fun τ' h' => ∃ z : Int, (0 ≤ z ∧ z ≤ m) ∧ τ' = [some (.ref t), some (.ref p), some (.int m), some (.int z), none, none, none, none, none, none, none] ∧ Tape t h' ∧ Fr t h h') ?_ ?_
  · simp (maxSteps := 2000000) (disch := decide) only [↓zdg, ↓zbx, ↓FL.then_nx, ↓FL.then_rt, ↓FL.then_bk, ↓FL.then_ct, ↓zbu, ↓zbv, ↓zcz, ↓zew, ↓zdc, ↓zex, ↓zdd, ↓zbw, ↓zev, ↓zeu, ↓zet, ↓zcy, ↓zda, ↓zdb, ↓zde, ↓zey, ↓zes, ↓zbi, ↓zfx, ↓zfy, ↓zci, ↓zcj, ↓zfp, ↓zbh, ↓zfh, ↓zfn, ↓zga, ↓zfl, ↓zdp, ↓zdo, ↓zfm, ↓zff, ↓zfk, ↓zgc, ↓zfd, ↓zgd, ↓zfq, ↓or1, ↓and2, ↓or2, ↓zdr, ↓zfs, ↓zds, ↓zft, ↓zfg, ↓zeg, ↓zcr, ↓zfo, ↓zfj, ↓zgb, ↓zfr, ↓zer, ↓zbk, ↓zge, ↓zfz, ↓zfi, ↓zdm, ↓zfe, ↓zdn, ↓zca, ↓zcb, ↓zfa, ↓zfv, ↓zez, ↓zfw, ↓zfc, ↓zfu, ↓zfb, ↓zdj, ↓zcd, ↓zdk, ↓zbl, ↓zdy, ↓zcf, ↓zdz, ↓zcg, ↓zbz, ↓zcc, ↓zdi, ↓zei, ↓zeh, ↓zdx, ↓zdw, ↓zdu, ↓zdq, ↓zea, ↓zcs, ↓zct, ↓zen, ↓zbg, ↓zcv, ↓zcu, ↓zcx, ↓zce, ↓reduceIte, and_self, ↓zbt, ↓zcq, ↓zbs, ↓zbm, ↓zdl, ↓zdf, ↓zby, ↓zec, ↓zed, ↓zee, ↓zef, ↓zdv, ↓zdt, ↓zem, ↓zek, ↓zel, ↓zej, ↓zcl, ↓zeb, ↓zck, ↓zcn, ↓zco, ↓zcm, ↓zbo, ↓zcp, ↓zbn, ↓zbq, ↓zbr, ↓zbp, ↓zal, ↓zak, ↓zai, ↓zba, ↓zaj, ↓zax, ↓zaw, ↓zau, ↓zbe, ↓zav, ↓zad, ↓zac, ↓zaa, ↓zay, ↓zab, ↓zap, ↓zao, ↓zam, ↓zbb, ↓zan, ↓zat, ↓zas, ↓zaq, ↓zbc, ↓zar, ↓zah, ↓zag, ↓zae, ↓zaz, ↓zaf, Bool.not_true, Bool.not_false, Bool.false_eq_true, zbf, zbd, ↓sl0, ↓sl1, ↓sl2, ↓sl3, ↓sl4, ↓sl5, ↓sl6, ↓sl7, ↓sl8, true_and, and_true, zbj, decide_true, decide_false, List.getElem?_cons_zero, List.getElem?_cons_succ, List.set_cons_zero, List.set_cons_succ, tT9_4]
    refine draw_v T (by omega) (by omega) fun v h1 v0 v1 T1 f1 => ?_
    exact ⟨v, by omega, rfl, T1, f1⟩
  rintro τ1 h1 ⟨z1, hz1, rfl, T1, f1⟩
  refine ss_mid (fun τ' h' => ∃ z : Int, (0 ≤ z ∧ z ≤ m) ∧ τ' = [some (.ref t), some (.ref p), some (.int m), some (.int z), none, none, none, none, none, none, none] ∧ Tape t h' ∧ Fr t h h') ?_ ?_
  · simp (maxSteps := 2000000) (disch := decide) only [↓zdg, ↓zbx, ↓FL.then_nx, ↓FL.then_rt, ↓FL.then_bk, ↓FL.then_ct, ↓zbu, ↓zbv, ↓zcz, ↓zew, ↓zdc, ↓zex, ↓zdd, ↓zbw, ↓zev, ↓zeu, ↓zet, ↓zcy, ↓zda, ↓zdb, ↓zde, ↓zey, ↓zes, ↓zbi, ↓zfx, ↓zfy, ↓zci, ↓zcj, ↓zfp, ↓zbh, ↓zfh, ↓zfn, ↓zga, ↓zfl, ↓zdp, ↓zdo, ↓zfm, ↓zff, ↓zfk, ↓zgc, ↓zfd, ↓zgd, ↓zfq, ↓or1, ↓and2, ↓or2, ↓zdr, ↓zfs, ↓zds, ↓zft, ↓zfg, ↓zeg, ↓zcr, ↓zfo, ↓zfj, ↓zgb, ↓zfr, ↓zer, ↓zbk, ↓zge, ↓zfz, ↓zfi, ↓zdm, ↓zfe, ↓zdn, ↓zca, ↓zcb, ↓zfa, ↓zfv, ↓zez, ↓zfw, ↓zfc, ↓zfu, ↓zfb, ↓zdj, ↓zcd, ↓zdk, ↓zbl, ↓zdy, ↓zcf, ↓zdz, ↓zcg, ↓zbz, ↓zcc, ↓zdi, ↓zei, ↓zeh, ↓zdx, ↓zdw, ↓zdu, ↓zdq, ↓zea, ↓zcs, ↓zct, ↓zen, ↓zbg, ↓zcv, ↓zcu, ↓zcx, ↓zce, ↓reduceIte, and_self, ↓zbt, ↓zcq, ↓zbs, ↓zbm, ↓zdl, ↓zdf, ↓zby, ↓zec, ↓zed, ↓zee, ↓zef, ↓zdv, ↓zdt, ↓zem, ↓zek, ↓zel, ↓zej, ↓zcl, ↓zeb, ↓zck, ↓zcn, ↓zco, ↓zcm, ↓zbo, ↓zcp, ↓zbn, ↓zbq, ↓zbr, ↓zbp, ↓zal, ↓zak, ↓zai, ↓zba, ↓zaj, ↓zax, ↓zaw, ↓zau, ↓zbe, ↓zav, ↓zad, ↓zac, ↓zaa, ↓zay, ↓zab, ↓zap, ↓zao, ↓zam, ↓zbb, ↓zan, ↓zat, ↓zas, ↓zaq, ↓zbc, ↓zar, ↓zah, ↓zag, ↓zae, ↓zaz, ↓zaf, Bool.not_true, Bool.not_false, Bool.false_eq_true, zbf, zbd, ↓sl0, ↓sl1, ↓sl2, ↓sl3, ↓sl4, ↓sl5, ↓sl6, ↓sl7, ↓sl8, true_and, and_true, zbj, decide_true, decide_false, List.getElem?_cons_zero, List.getElem?_cons_succ, List.set_cons_zero, List.set_cons_succ, tT9_4]
    refine draw_v T1 (by omega) (by omega) fun v h2 v0 v1 T2 f2 => ?_
    try simp (maxSteps := 2000000) (disch := decide) only [↓zdg, ↓zbx, ↓FL.then_nx, ↓FL.then_rt, ↓FL.then_bk, ↓FL.then_ct, ↓zbu, ↓zbv, ↓zcz, ↓zew, ↓zdc, ↓zex, ↓zdd, ↓zbw, ↓zev, ↓zeu, ↓zet, ↓zcy, ↓zda, ↓zdb, ↓zde, ↓zey, ↓zes, ↓zbi, ↓zfx, ↓zfy, ↓zci, ↓zcj, ↓zfp, ↓zbh, ↓zfh, ↓zfn, ↓zga, ↓zfl, ↓zdp, ↓zdo, ↓zfm, ↓zff, ↓zfk, ↓zgc, ↓zfd, ↓zgd, ↓zfq, ↓or1, ↓and2, ↓or2, ↓zdr, ↓zfs, ↓zds, ↓zft, ↓zfg, ↓zeg, ↓zcr, ↓zfo, ↓zfj, ↓zgb, ↓zfr, ↓zer, ↓zbk, ↓zge, ↓zfz, ↓zfi, ↓zdm, ↓zfe, ↓zdn, ↓zca, ↓zcb, ↓zfa, ↓zfv, ↓zez, ↓zfw, ↓zfc, ↓zfu, ↓zfb, ↓zdj, ↓zcd, ↓zdk, ↓zbl, ↓zdy, ↓zcf, ↓zdz, ↓zcg, ↓zbz, ↓zcc, ↓zdi, ↓zei, ↓zeh, ↓zdx, ↓zdw, ↓zdu, ↓zdq, ↓zea, ↓zcs, ↓zct, ↓zen, ↓zbg, ↓zcv, ↓zcu, ↓zcx, ↓zce, ↓reduceIte, and_self, ↓zbt, ↓zcq, ↓zbs, ↓zbm, ↓zdl, ↓zdf, ↓zby, ↓zec, ↓zed, ↓zee, ↓zef, ↓zdv, ↓zdt, ↓zem, ↓zek, ↓zel, ↓zej, ↓zcl, ↓zeb, ↓zck, ↓zcn, ↓zco, ↓zcm, ↓zbo, ↓zcp, ↓zbn, ↓zbq, ↓zbr, ↓zbp, ↓zal, ↓zak, ↓zai, ↓zba, ↓zaj, ↓zax, ↓zaw, ↓zau, ↓zbe, ↓zav, ↓zad, ↓zac, ↓zaa, ↓zay, ↓zab, ↓zap, ↓zao, ↓zam, ↓zbb, ↓zan, ↓zat, ↓zas, ↓zaq, ↓zbc, ↓zar, ↓zah, ↓zag, ↓zae, ↓zaz, ↓zaf, Bool.not_true, Bool.not_false, Bool.false_eq_true, zbf, zbd, ↓sl0, ↓sl1, ↓sl2, ↓sl3, ↓sl4, ↓sl5, ↓sl6, ↓sl7, ↓sl8, true_and, and_true, zbj, decide_true, decide_false, List.getElem?_cons_zero, List.getElem?_cons_succ, List.set_cons_zero, List.set_cons_succ, tT9_4]
    split
    · skip
      refine draw_v T2.app (by decide) (by decide) fun v3 h3 a3 b3 T3 f3 => ?_
      refine ix_lit (Fr.new T2 f3) a3 b3 fun k hk => ?_
      have hk : ∃ n : Int, k = .int n ∧ 0 ≤ n ∧ n ≤ m := by
        simp only [List.mem_cons, List.not_mem_nil, or_false] at hk
        rcases hk with rfl | rfl | rfl | rfl
        · exact ⟨0, rfl, by omega⟩
        · exact ⟨1, rfl, by omega⟩
        · exact ⟨2, rfl, by omega⟩
        · exact ⟨m, rfl, by omega⟩
      obtain ⟨n, rfl, hn⟩ := hk
      exact ⟨n, hn, rfl, T3, ((f1.trans f2).trans .app).trans f3⟩
    · exact ⟨z1, hz1, rfl, T2, f1.trans f2⟩
  rintro τ2 h2 ⟨z, hz, rfl, T2, f2⟩
  clear hz1 T1 f1
  refine ss_mid (fun τ' h' => ∃ c : Int, τ' = [some (.ref t), some (.ref p), some (.int m), some (.int z), some (.int c), none, none, none, none, none, none] ∧ Tape t h' ∧ Fr t h h') ?_ ?_
  · simp (maxSteps := 2000000) (disch := decide) only [↓zdg, ↓zbx, ↓FL.then_nx, ↓FL.then_rt, ↓FL.then_bk, ↓FL.then_ct, ↓zbu, ↓zbv, ↓zcz, ↓zew, ↓zdc, ↓zex, ↓zdd, ↓zbw, ↓zev, ↓zeu, ↓zet, ↓zcy, ↓zda, ↓zdb, ↓zde, ↓zey, ↓zes, ↓zbi, ↓zfx, ↓zfy, ↓zci, ↓zcj, ↓zfp, ↓zbh, ↓zfh, ↓zfn, ↓zga, ↓zfl, ↓zdp, ↓zdo, ↓zfm, ↓zff, ↓zfk, ↓zgc, ↓zfd, ↓zgd, ↓zfq, ↓or1, ↓and2, ↓or2, ↓zdr, ↓zfs, ↓zds, ↓zft, ↓zfg, ↓zeg, ↓zcr, ↓zfo, ↓zfj, ↓zgb, ↓zfr, ↓zer, ↓zbk, ↓zge, ↓zfz, ↓zfi, ↓zdm, ↓zfe, ↓zdn, ↓zca, ↓zcb, ↓zfa, ↓zfv, ↓zez, ↓zfw, ↓zfc, ↓zfu, ↓zfb, ↓zdj, ↓zcd, ↓zdk, ↓zbl, ↓zdy, ↓zcf, ↓zdz, ↓zcg, ↓zbz, ↓zcc, ↓zdi, ↓zei, ↓zeh, ↓zdx, ↓zdw, ↓zdu, ↓zdq, ↓zea, ↓zcs, ↓zct, ↓zen, ↓zbg, ↓zcv, ↓zcu, ↓zcx, ↓zce, ↓reduceIte, and_self, ↓zbt, ↓zcq, ↓zbs, ↓zbm, ↓zdl, ↓zdf, ↓zby, ↓zec, ↓zed, ↓zee, ↓zef, ↓zdv, ↓zdt, ↓zem, ↓zek, ↓zel, ↓zej, ↓zcl, ↓zeb, ↓zck, ↓zcn, ↓zco, ↓zcm, ↓zbo, ↓zcp, ↓zbn, ↓zbq, ↓zbr, ↓zbp, ↓zal, ↓zak, ↓zai, ↓zba, ↓zaj, ↓zax, ↓zaw, ↓zau, ↓zbe, ↓zav, ↓zad, ↓zac, ↓zaa, ↓zay, ↓zab, ↓zap, ↓zao, ↓zam, ↓zbb, ↓zan, ↓zat, ↓zas, ↓zaq, ↓zbc, ↓zar, ↓zah, ↓zag, ↓zae, ↓zaz, ↓zaf, Bool.not_true, Bool.not_false, Bool.false_eq_true, zbf, zbd, ↓sl0, ↓sl1, ↓sl2, ↓sl3, ↓sl4, ↓sl5, ↓sl6, ↓sl7, ↓sl8, true_and, and_true, zbj, decide_true, decide_false, List.getElem?_cons_zero, List.getElem?_cons_succ, List.set_cons_zero, List.set_cons_succ, tT9_4]
    refine draw_v T2 (by decide) (by decide) fun v h3 v0 v1 T3 f3 => ?_
    exact ⟨v, rfl, T3, f2.trans f3⟩
  rintro τ3 h3 ⟨c, rfl, T3, f3⟩
  refine ss_mid (fun τ' h' => ∃ f : Int, τ' = [some (.ref t), some (.ref p), some (.int m), some (.int z), some (.int c), some (.int f), none, none, none, none, none] ∧ Tape t h' ∧ Fr t h h') ?_ ?_
  · simp (maxSteps := 2000000) (disch := decide) only [↓zdg, ↓zbx, ↓FL.then_nx, ↓FL.then_rt, ↓FL.then_bk, ↓FL.then_ct, ↓zbu, ↓zbv, ↓zcz, ↓zew, ↓zdc, ↓zex, ↓zdd, ↓zbw, ↓zev, ↓zeu, ↓zet, ↓zcy, ↓zda, ↓zdb, ↓zde, ↓zey, ↓zes, ↓zbi, ↓zfx, ↓zfy, ↓zci, ↓zcj, ↓zfp, ↓zbh, ↓zfh, ↓zfn, ↓zga, ↓zfl, ↓zdp, ↓zdo, ↓zfm, ↓zff, ↓zfk, ↓zgc, ↓zfd, ↓zgd, ↓zfq, ↓or1, ↓and2, ↓or2, ↓zdr, ↓zfs, ↓zds, ↓zft, ↓zfg, ↓zeg, ↓zcr, ↓zfo, ↓zfj, ↓zgb, ↓zfr, ↓zer, ↓zbk, ↓zge, ↓zfz, ↓zfi, ↓zdm, ↓zfe, ↓zdn, ↓zca, ↓zcb, ↓zfa, ↓zfv, ↓zez, ↓zfw, ↓zfc, ↓zfu, ↓zfb, ↓zdj, ↓zcd, ↓zdk, ↓zbl, ↓zdy, ↓zcf, ↓zdz, ↓zcg, ↓zbz, ↓zcc, ↓zdi, ↓zei, ↓zeh, ↓zdx, ↓zdw, ↓zdu, ↓zdq, ↓zea, ↓zcs, ↓zct, ↓zen, ↓zbg, ↓zcv, ↓zcu, ↓zcx, ↓zce, ↓reduceIte, and_self, ↓zbt, ↓zcq, ↓zbs, ↓zbm, ↓zdl, ↓zdf, ↓zby, ↓zec, ↓zed, ↓zee, ↓zef, ↓zdv, ↓zdt, ↓zem, ↓zek, ↓zel, ↓zej, ↓zcl, ↓zeb, ↓zck, ↓zcn, ↓zco, ↓zcm, ↓zbo, ↓zcp, ↓zbn, ↓zbq, ↓zbr, ↓zbp, ↓zal, ↓zak, ↓zai, ↓zba, ↓zaj, ↓zax, ↓zaw, ↓zau, ↓zbe, ↓zav, ↓zad, ↓zac, ↓zaa, ↓zay, ↓zab, ↓zap, ↓zao, ↓zam, ↓zbb, ↓zan, ↓zat, ↓zas, ↓zaq, ↓zbc, ↓zar, ↓zah, ↓zag, ↓zae, ↓zaz, ↓zaf, Bool.not_true, Bool.not_false, Bool.false_eq_true, zbf, zbd, ↓sl0, ↓sl1, ↓sl2, ↓sl3, ↓sl4, ↓sl5, ↓sl6, ↓sl7, ↓sl8, true_and, and_true, zbj, decide_true, decide_false, List.getElem?_cons_zero, List.getElem?_cons_succ, List.set_cons_zero, List.set_cons_succ, tT9_4]
    refine draw_v T3 (by decide) (by decide) fun v h4 v0 v1 T4 f4 => ?_
    exact ⟨v, rfl, T4, f3.trans f4⟩
  rintro τ4 h4 ⟨f, rfl, T4, f4⟩
  have q4 := q.fr f4 n
  refine ss_mid (fun τ' h' => τ' = [some (.ref t), some (.ref p), some (.int m), some (.int z), some (.int c), some (.int f), none, none, none, none, none] ∧ h' = h4) ?_ ?_
  · simp (maxSteps := 2000000) (disch := decide) only [↓zdg, ↓zbx, ↓FL.then_nx, ↓FL.then_rt, ↓FL.then_bk, ↓FL.then_ct, ↓zbu, ↓zbv, ↓zcz, ↓zew, ↓zdc, ↓zex, ↓zdd, ↓zbw, ↓zev, ↓zeu, ↓zet, ↓zcy, ↓zda, ↓zdb, ↓zde, ↓zey, ↓zes, ↓zbi, ↓zfx, ↓zfy, ↓zci, ↓zcj, ↓zfp, ↓zbh, ↓zfh, ↓zfn, ↓zga, ↓zfl, ↓zdp, ↓zdo, ↓zfm, ↓zff, ↓zfk, ↓zgc, ↓zfd, ↓zgd, ↓zfq, ↓or1, ↓and2, ↓or2, ↓zdr, ↓zfs, ↓zds, ↓zft, ↓zfg, ↓zeg, ↓zcr, ↓zfo, ↓zfj, ↓zgb, ↓zfr, ↓zer, ↓zbk, ↓zge, ↓zfz, ↓zfi, ↓zdm, ↓zfe, ↓zdn, ↓zca, ↓zcb, ↓zfa, ↓zfv, ↓zez, ↓zfw, ↓zfc, ↓zfu, ↓zfb, ↓zdj, ↓zcd, ↓zdk, ↓zbl, ↓zdy, ↓zcf, ↓zdz, ↓zcg, ↓zbz, ↓zcc, ↓zdi, ↓zei, ↓zeh, ↓zdx, ↓zdw, ↓zdu, ↓zdq, ↓zea, ↓zcs, ↓zct, ↓zen, ↓zbg, ↓zcv, ↓zcu, ↓zcx, ↓zce, ↓reduceIte, and_self, ↓zbt, ↓zcq, ↓zbs, ↓zbm, ↓zdl, ↓zdf, ↓zby, ↓zec, ↓zed, ↓zee, ↓zef, ↓zdv, ↓zdt, ↓zem, ↓zek, ↓zel, ↓zej, ↓zcl, ↓zeb, ↓zck, ↓zcn, ↓zco, ↓zcm, ↓zbo, ↓zcp, ↓zbn, ↓zbq, ↓zbr, ↓zbp, ↓zal, ↓zak, ↓zai, ↓zba, ↓zaj, ↓zax, ↓zaw, ↓zau, ↓zbe, ↓zav, ↓zad, ↓zac, ↓zaa, ↓zay, ↓zab, ↓zap, ↓zao, ↓zam, ↓zbb, ↓zan, ↓zat, ↓zas, ↓zaq, ↓zbc, ↓zar, ↓zah, ↓zag, ↓zae, ↓zaz, ↓zaf, Bool.not_true, Bool.not_false, Bool.false_eq_true, zbf, zbd, ↓sl0, ↓sl1, ↓sl2, ↓sl3, ↓sl4, ↓sl5, ↓sl6, ↓sl7, ↓sl8, true_and, and_true, zbj, decide_true, decide_false, List.getElem?_cons_zero, List.getElem?_cons_succ, List.set_cons_zero, List.set_cons_succ, tT9_4]
    split
    · refine rngD_i (by omega) (by omega) ?_
      refine vCo_no (fun i acc h' => acc.length = i ∧ (∀ d ∈ acc, El d) ∧ h' = h4) ⟨rfl, by simp, rfl⟩ (fun _ _ _ _ _ _ z => nomatch z) (fun i acc h' d hd ⟨hl, ha, eh⟩ => ?_) fun acc h' ⟨hl, ha, eh⟩ => ?_
      · refine ⟨_, rfl, ?_⟩
        obtain ⟨y, rfl⟩ : ∃ y, d = D.int y := by
          obtain ⟨j, _, e⟩ := List.mem_map.mp (List.mem_of_getElem? hd)
          exact ⟨_, e.symm⟩
        simp (maxSteps := 2000000) (disch := decide) only [↓zdg, ↓zbx, ↓FL.then_nx, ↓FL.then_rt, ↓FL.then_bk, ↓FL.then_ct, ↓zbu, ↓zbv, ↓zcz, ↓zew, ↓zdc, ↓zex, ↓zdd, ↓zbw, ↓zev, ↓zeu, ↓zet, ↓zcy, ↓zda, ↓zdb, ↓zde, ↓zey, ↓zes, ↓zbi, ↓zfx, ↓zfy, ↓zci, ↓zcj, ↓zfp, ↓zbh, ↓zfh, ↓zfn, ↓zga, ↓zfl, ↓zdp, ↓zdo, ↓zfm, ↓zff, ↓zfk, ↓zgc, ↓zfd, ↓zgd, ↓zfq, ↓or1, ↓and2, ↓or2, ↓zdr, ↓zfs, ↓zds, ↓zft, ↓zfg, ↓zeg, ↓zcr, ↓zfo, ↓zfj, ↓zgb, ↓zfr, ↓zer, ↓zbk, ↓zge, ↓zfz, ↓zfi, ↓zdm, ↓zfe, ↓zdn, ↓zca, ↓zcb, ↓zfa, ↓zfv, ↓zez, ↓zfw, ↓zfc, ↓zfu, ↓zfb, ↓zdj, ↓zcd, ↓zdk, ↓zbl, ↓zdy, ↓zcf, ↓zdz, ↓zcg, ↓zbz, ↓zcc, ↓zdi, ↓zei, ↓zeh, ↓zdx, ↓zdw, ↓zdu, ↓zdq, ↓zea, ↓zcs, ↓zct, ↓zen, ↓zbg, ↓zcv, ↓zcu, ↓zcx, ↓zce, ↓reduceIte, and_self, ↓zbt, ↓zcq, ↓zbs, ↓zbm, ↓zdl, ↓zdf, ↓zby, ↓zec, ↓zed, ↓zee, ↓zef, ↓zdv, ↓zdt, ↓zem, ↓zek, ↓zel, ↓zej, ↓zcl, ↓zeb, ↓zck, ↓zcn, ↓zco, ↓zcm, ↓zbo, ↓zcp, ↓zbn, ↓zbq, ↓zbr, ↓zbp, ↓zal, ↓zak, ↓zai, ↓zba, ↓zaj, ↓zax, ↓zaw, ↓zau, ↓zbe, ↓zav, ↓zad, ↓zac, ↓zaa, ↓zay, ↓zab, ↓zap, ↓zao, ↓zam, ↓zbb, ↓zan, ↓zat, ↓zas, ↓zaq, ↓zbc, ↓zar, ↓zah, ↓zag, ↓zae, ↓zaz, ↓zaf, Bool.not_true, Bool.not_false, Bool.false_eq_true, zbf, zbd, ↓sl0, ↓sl1, ↓sl2, ↓sl3, ↓sl4, ↓sl5, ↓sl6, ↓sl7, ↓sl8, true_and, and_true, zbj, decide_true, decide_false, List.getElem?_cons_zero, List.getElem?_cons_succ, List.set_cons_zero, List.set_cons_succ, wipeD, tT9_4]
        exact ⟨by rw [List.length_append, hl]; rfl, snoc_all ha (.sc (.int _)), eh⟩
      · subst eh
        rw [rng_len] at hl
        refine ⟨len_le (a := acc.length) (by omega) rfl, (tuple_v (seqOf_ref app_new)).mpr ?_⟩
        exact ⟨⟨acc, rfl, by omega, ha⟩, T4.app, f4.trans .app⟩
    · first | trivial | exact ⟨rfl, rfl⟩
  rintro τ5 h5 ⟨rfl, rfl⟩
  refine ss_mid (fun τ' h' => τ' = [some (.ref t), some (.ref p), some (.int m), some (.int z), some (.int c), some (.int f), none, none, none, none, none] ∧ h' = h5) ?_ ?_
  · simp (maxSteps := 2000000) (disch := decide) only [↓zdg, ↓zbx, ↓FL.then_nx, ↓FL.then_rt, ↓FL.then_bk, ↓FL.then_ct, ↓zbu, ↓zbv, ↓zcz, ↓zew, ↓zdc, ↓zex, ↓zdd, ↓zbw, ↓zev, ↓zeu, ↓zet, ↓zcy, ↓zda, ↓zdb, ↓zde, ↓zey, ↓zes, ↓zbi, ↓zfx, ↓zfy, ↓zci, ↓zcj, ↓zfp, ↓zbh, ↓zfh, ↓zfn, ↓zga, ↓zfl, ↓zdp, ↓zdo, ↓zfm, ↓zff, ↓zfk, ↓zgc, ↓zfd, ↓zgd, ↓zfq, ↓or1, ↓and2, ↓or2, ↓zdr, ↓zfs, ↓zds, ↓zft, ↓zfg, ↓zeg, ↓zcr, ↓zfo, ↓zfj, ↓zgb, ↓zfr, ↓zer, ↓zbk, ↓zge, ↓zfz, ↓zfi, ↓zdm, ↓zfe, ↓zdn, ↓zca, ↓zcb, ↓zfa, ↓zfv, ↓zez, ↓zfw, ↓zfc, ↓zfu, ↓zfb, ↓zdj, ↓zcd, ↓zdk, ↓zbl, ↓zdy, ↓zcf, ↓zdz, ↓zcg, ↓zbz, ↓zcc, ↓zdi, ↓zei, ↓zeh, ↓zdx, ↓zdw, ↓zdu, ↓zdq, ↓zea, ↓zcs, ↓zct, ↓zen, ↓zbg, ↓zcv, ↓zcu, ↓zcx, ↓zce, ↓reduceIte, and_self, ↓zbt, ↓zcq, ↓zbs, ↓zbm, ↓zdl, ↓zdf, ↓zby, ↓zec, ↓zed, ↓zee, ↓zef, ↓zdv, ↓zdt, ↓zem, ↓zek, ↓zel, ↓zej, ↓zcl, ↓zeb, ↓zck, ↓zcn, ↓zco, ↓zcm, ↓zbo, ↓zcp, ↓zbn, ↓zbq, ↓zbr, ↓zbp, ↓zal, ↓zak, ↓zai, ↓zba, ↓zaj, ↓zax, ↓zaw, ↓zau, ↓zbe, ↓zav, ↓zad, ↓zac, ↓zaa, ↓zay, ↓zab, ↓zap, ↓zao, ↓zam, ↓zbb, ↓zan, ↓zat, ↓zas, ↓zaq, ↓zbc, ↓zar, ↓zah, ↓zag, ↓zae, ↓zaz, ↓zaf, Bool.not_true, Bool.not_false, Bool.false_eq_true, zbf, zbd, ↓sl0, ↓sl1, ↓sl2, ↓sl3, ↓sl4, ↓sl5, ↓sl6, ↓sl7, ↓sl8, true_and, and_true, zbj, decide_true, decide_false, List.getElem?_cons_zero, List.getElem?_cons_succ, List.set_cons_zero, List.set_cons_succ, tT9_4]
    split
    · have fm : 0 ≤ f % 4 ∧ f % 4 < 4 := ⟨Int.emod_nonneg _ (by decide), Int.emod_lt_of_pos _ (by decide)⟩
      refine rngD_i (by omega) (by omega) ?_
      refine vCo_no (fun i acc h' => acc.length = i ∧ (∀ d ∈ acc, El d) ∧ Tape t h' ∧ Fr t h h') ⟨rfl, by simp, T4, f4⟩ (fun _ _ _ _ _ _ z => nomatch z) (fun i acc h' d hd ⟨hl, ha, T', f'⟩ => ?_) fun acc h' ⟨hl, ha, T', f'⟩ => ?_
      · refine ⟨_, rfl, ?_⟩
        simp (maxSteps := 2000000) (disch := decide) only [↓zdg, ↓zbx, ↓FL.then_nx, ↓FL.then_rt, ↓FL.then_bk, ↓FL.then_ct, ↓zbu, ↓zbv, ↓zcz, ↓zew, ↓zdc, ↓zex, ↓zdd, ↓zbw, ↓zev, ↓zeu, ↓zet, ↓zcy, ↓zda, ↓zdb, ↓zde, ↓zey, ↓zes, ↓zbi, ↓zfx, ↓zfy, ↓zci, ↓zcj, ↓zfp, ↓zbh, ↓zfh, ↓zfn, ↓zga, ↓zfl, ↓zdp, ↓zdo, ↓zfm, ↓zff, ↓zfk, ↓zgc, ↓zfd, ↓zgd, ↓zfq, ↓or1, ↓and2, ↓or2, ↓zdr, ↓zfs, ↓zds, ↓zft, ↓zfg, ↓zeg, ↓zcr, ↓zfo, ↓zfj, ↓zgb, ↓zfr, ↓zer, ↓zbk, ↓zge, ↓zfz, ↓zfi, ↓zdm, ↓zfe, ↓zdn, ↓zca, ↓zcb, ↓zfa, ↓zfv, ↓zez, ↓zfw, ↓zfc, ↓zfu, ↓zfb, ↓zdj, ↓zcd, ↓zdk, ↓zbl, ↓zdy, ↓zcf, ↓zdz, ↓zcg, ↓zbz, ↓zcc, ↓zdi, ↓zei, ↓zeh, ↓zdx, ↓zdw, ↓zdu, ↓zdq, ↓zea, ↓zcs, ↓zct, ↓zen, ↓zbg, ↓zcv, ↓zcu, ↓zcx, ↓zce, ↓reduceIte, and_self, ↓zbt, ↓zcq, ↓zbs, ↓zbm, ↓zdl, ↓zdf, ↓zby, ↓zec, ↓zed, ↓zee, ↓zef, ↓zdv, ↓zdt, ↓zem, ↓zek, ↓zel, ↓zej, ↓zcl, ↓zeb, ↓zck, ↓zcn, ↓zco, ↓zcm, ↓zbo, ↓zcp, ↓zbn, ↓zbq, ↓zbr, ↓zbp, ↓zal, ↓zak, ↓zai, ↓zba, ↓zaj, ↓zax, ↓zaw, ↓zau, ↓zbe, ↓zav, ↓zad, ↓zac, ↓zaa, ↓zay, ↓zab, ↓zap, ↓zao, ↓zam, ↓zbb, ↓zan, ↓zat, ↓zas, ↓zaq, ↓zbc, ↓zar, ↓zah, ↓zag, ↓zae, ↓zaz, ↓zaf, Bool.not_true, Bool.not_false, Bool.false_eq_true, zbf, zbd, ↓sl0, ↓sl1, ↓sl2, ↓sl3, ↓sl4, ↓sl5, ↓sl6, ↓sl7, ↓sl8, true_and, and_true, zbj, decide_true, decide_false, List.getElem?_cons_zero, List.getElem?_cons_succ, List.set_cons_zero, List.set_cons_succ, wipeD, tT9_4]
        exact pick_v T' n (q.fr f' n) fun x h2 ex T2 f2 => ⟨by rw [List.length_append, hl]; rfl, snoc_all ha ex, T2, f'.trans f2⟩
      · rw [rng_len] at hl
        refine ⟨len_le (a := acc.length) (by omega) rfl, ?_⟩
        try simp (maxSteps := 2000000) (disch := decide) only [↓zdg, ↓zbx, ↓FL.then_nx, ↓FL.then_rt, ↓FL.then_bk, ↓FL.then_ct, ↓zbu, ↓zbv, ↓zcz, ↓zew, ↓zdc, ↓zex, ↓zdd, ↓zbw, ↓zev, ↓zeu, ↓zet, ↓zcy, ↓zda, ↓zdb, ↓zde, ↓zey, ↓zes, ↓zbi, ↓zfx, ↓zfy, ↓zci, ↓zcj, ↓zfp, ↓zbh, ↓zfh, ↓zfn, ↓zga, ↓zfl, ↓zdp, ↓zdo, ↓zfm, ↓zff, ↓zfk, ↓zgc, ↓zfd, ↓zgd, ↓zfq, ↓or1, ↓and2, ↓or2, ↓zdr, ↓zfs, ↓zds, ↓zft, ↓zfg, ↓zeg, ↓zcr, ↓zfo, ↓zfj, ↓zgb, ↓zfr, ↓zer, ↓zbk, ↓zge, ↓zfz, ↓zfi, ↓zdm, ↓zfe, ↓zdn, ↓zca, ↓zcb, ↓zfa, ↓zfv, ↓zez, ↓zfw, ↓zfc, ↓zfu, ↓zfb, ↓zdj, ↓zcd, ↓zdk, ↓zbl, ↓zdy, ↓zcf, ↓zdz, ↓zcg, ↓zbz, ↓zcc, ↓zdi, ↓zei, ↓zeh, ↓zdx, ↓zdw, ↓zdu, ↓zdq, ↓zea, ↓zcs, ↓zct, ↓zen, ↓zbg, ↓zcv, ↓zcu, ↓zcx, ↓zce, ↓reduceIte, and_self, ↓zbt, ↓zcq, ↓zbs, ↓zbm, ↓zdl, ↓zdf, ↓zby, ↓zec, ↓zed, ↓zee, ↓zef, ↓zdv, ↓zdt, ↓zem, ↓zek, ↓zel, ↓zej, ↓zcl, ↓zeb, ↓zck, ↓zcn, ↓zco, ↓zcm, ↓zbo, ↓zcp, ↓zbn, ↓zbq, ↓zbr, ↓zbp, ↓zal, ↓zak, ↓zai, ↓zba, ↓zaj, ↓zax, ↓zaw, ↓zau, ↓zbe, ↓zav, ↓zad, ↓zac, ↓zaa, ↓zay, ↓zab, ↓zap, ↓zao, ↓zam, ↓zbb, ↓zan, ↓zat, ↓zas, ↓zaq, ↓zbc, ↓zar, ↓zah, ↓zag, ↓zae, ↓zaz, ↓zaf, Bool.not_true, Bool.not_false, Bool.false_eq_true, zbf, zbd, ↓sl0, ↓sl1, ↓sl2, ↓sl3, ↓sl4, ↓sl5, ↓sl6, ↓sl7, ↓sl8, true_and, and_true, zbj, decide_true, decide_false, List.getElem?_cons_zero, List.getElem?_cons_succ, List.set_cons_zero, List.set_cons_succ, tT9_4]
        refine rngD_i (by omega) (by omega) ?_
        refine vCo_no (fun i ac h'' => ac.length = i ∧ (∀ d ∈ ac, El d) ∧ h'' = h' ++ [.lst acc]) ⟨rfl, by simp, rfl⟩ (fun _ _ _ _ _ _ z => nomatch z) (fun i ac h'' d hd ⟨hl', ha', eh⟩ => ?_) fun ac h'' ⟨hl', ha', eh⟩ => ?_
        · subst eh
          refine ⟨_, rfl, ?_⟩
          obtain ⟨y, rfl⟩ : ∃ y, d = D.int y := by
            obtain ⟨j, _, e⟩ := List.mem_map.mp (List.mem_of_getElem? hd)
            exact ⟨_, e.symm⟩
          have hp : 0 < (acc.length : Int) := by omega
          simp (maxSteps := 2000000) (disch := decide) only [↓zdg, ↓zbx, ↓FL.then_nx, ↓FL.then_rt, ↓FL.then_bk, ↓FL.then_ct, ↓zbu, ↓zbv, ↓zcz, ↓zew, ↓zdc, ↓zex, ↓zdd, ↓zbw, ↓zev, ↓zeu, ↓zet, ↓zcy, ↓zda, ↓zdb, ↓zde, ↓zey, ↓zes, ↓zbi, ↓zfx, ↓zfy, ↓zci, ↓zcj, ↓zfp, ↓zbh, ↓zfh, ↓zfn, ↓zga, ↓zfl, ↓zdp, ↓zdo, ↓zfm, ↓zff, ↓zfk, ↓zgc, ↓zfd, ↓zgd, ↓zfq, ↓or1, ↓and2, ↓or2, ↓zdr, ↓zfs, ↓zds, ↓zft, ↓zfg, ↓zeg, ↓zcr, ↓zfo, ↓zfj, ↓zgb, ↓zfr, ↓zer, ↓zbk, ↓zge, ↓zfz, ↓zfi, ↓zdm, ↓zfe, ↓zdn, ↓zca, ↓zcb, ↓zfa, ↓zfv, ↓zez, ↓zfw, ↓zfc, ↓zfu, ↓zfb, ↓zdj, ↓zcd, ↓zdk, ↓zbl, ↓zdy, ↓zcf, ↓zdz, ↓zcg, ↓zbz, ↓zcc, ↓zdi, ↓zei, ↓zeh, ↓zdx, ↓zdw, ↓zdu, ↓zdq, ↓zea, ↓zcs, ↓zct, ↓zen, ↓zbg, ↓zcv, ↓zcu, ↓zcx, ↓zce, ↓reduceIte, and_self, ↓zbt, ↓zcq, ↓zbs, ↓zbm, ↓zdl, ↓zdf, ↓zby, ↓zec, ↓zed, ↓zee, ↓zef, ↓zdv, ↓zdt, ↓zem, ↓zek, ↓zel, ↓zej, ↓zcl, ↓zeb, ↓zck, ↓zcn, ↓zco, ↓zcm, ↓zbo, ↓zcp, ↓zbn, ↓zbq, ↓zbr, ↓zbp, ↓zal, ↓zak, ↓zai, ↓zba, ↓zaj, ↓zax, ↓zaw, ↓zau, ↓zbe, ↓zav, ↓zad, ↓zac, ↓zaa, ↓zay, ↓zab, ↓zap, ↓zao, ↓zam, ↓zbb, ↓zan, ↓zat, ↓zas, ↓zaq, ↓zbc, ↓zar, ↓zah, ↓zag, ↓zae, ↓zaz, ↓zaf, Bool.not_true, Bool.not_false, Bool.false_eq_true, zbf, zbd, ↓sl0, ↓sl1, ↓sl2, ↓sl3, ↓sl4, ↓sl5, ↓sl6, ↓sl7, ↓sl8, true_and, and_true, zbj, decide_true, decide_false, List.getElem?_cons_zero, List.getElem?_cons_succ, List.set_cons_zero, List.set_cons_succ, wipeD, tT9_4, ↓len_ref app_new, ↓zcu hp]
          refine ix_lit app_new (Int.emod_nonneg _ (by omega)) (Int.emod_lt_of_pos _ hp) fun x hx => ?_
          exact ⟨by rw [List.length_append, hl']; rfl, snoc_all ha' (ha x hx), rfl⟩
        · subst eh
          rw [rng_len] at hl'
          refine ⟨len_le (a := ac.length) (by omega) rfl, (tuple_v (seqOf_ref app_new)).mpr ?_⟩
          exact ⟨⟨ac, rfl, by omega, ha'⟩, T'.app.app, (f'.trans .app).trans .app⟩
    · first | trivial | exact ⟨rfl, rfl⟩
  rintro τ6 h6 ⟨rfl, rfl⟩
  refine ss_mid (fun τ' h' => ∃ (g : Nat), τ' = [some (.ref t), some (.ref p), some (.int m), some (.int z), some (.int c), some (.int f), none, some (.ref g), none, none, none] ∧ h'[g]? = some (.lst []) ∧ g ≠ t ∧ Tape t h' ∧ Fr t h h') ?_ ?_
  · simp (maxSteps := 2000000) (disch := decide) only [↓zdg, ↓zbx, ↓FL.then_nx, ↓FL.then_rt, ↓FL.then_bk, ↓FL.then_ct, ↓zbu, ↓zbv, ↓zcz, ↓zew, ↓zdc, ↓zex, ↓zdd, ↓zbw, ↓zev, ↓zeu, ↓zet, ↓zcy, ↓zda, ↓zdb, ↓zde, ↓zey, ↓zes, ↓zbi, ↓zfx, ↓zfy, ↓zci, ↓zcj, ↓zfp, ↓zbh, ↓zfh, ↓zfn, ↓zga, ↓zfl, ↓zdp, ↓zdo, ↓zfm, ↓zff, ↓zfk, ↓zgc, ↓zfd, ↓zgd, ↓zfq, ↓or1, ↓and2, ↓or2, ↓zdr, ↓zfs, ↓zds, ↓zft, ↓zfg, ↓zeg, ↓zcr, ↓zfo, ↓zfj, ↓zgb, ↓zfr, ↓zer, ↓zbk, ↓zge, ↓zfz, ↓zfi, ↓zdm, ↓zfe, ↓zdn, ↓zca, ↓zcb, ↓zfa, ↓zfv, ↓zez, ↓zfw, ↓zfc, ↓zfu, ↓zfb, ↓zdj, ↓zcd, ↓zdk, ↓zbl, ↓zdy, ↓zcf, ↓zdz, ↓zcg, ↓zbz, ↓zcc, ↓zdi, ↓zei, ↓zeh, ↓zdx, ↓zdw, ↓zdu, ↓zdq, ↓zea, ↓zcs, ↓zct, ↓zen, ↓zbg, ↓zcv, ↓zcu, ↓zcx, ↓zce, ↓reduceIte, and_self, ↓zbt, ↓zcq, ↓zbs, ↓zbm, ↓zdl, ↓zdf, ↓zby, ↓zec, ↓zed, ↓zee, ↓zef, ↓zdv, ↓zdt, ↓zem, ↓zek, ↓zel, ↓zej, ↓zcl, ↓zeb, ↓zck, ↓zcn, ↓zco, ↓zcm, ↓zbo, ↓zcp, ↓zbn, ↓zbq, ↓zbr, ↓zbp, ↓zal, ↓zak, ↓zai, ↓zba, ↓zaj, ↓zax, ↓zaw, ↓zau, ↓zbe, ↓zav, ↓zad, ↓zac, ↓zaa, ↓zay, ↓zab, ↓zap, ↓zao, ↓zam, ↓zbb, ↓zan, ↓zat, ↓zas, ↓zaq, ↓zbc, ↓zar, ↓zah, ↓zag, ↓zae, ↓zaz, ↓zaf, Bool.not_true, Bool.not_false, Bool.false_eq_true, zbf, zbd, ↓sl0, ↓sl1, ↓sl2, ↓sl3, ↓sl4, ↓sl5, ↓sl6, ↓sl7, ↓sl8, true_and, and_true, zbj, decide_true, decide_false, List.getElem?_cons_zero, List.getElem?_cons_succ, List.set_cons_zero, List.set_cons_succ, tT9_4]
    exact ⟨_, rfl, app_new, Nat.ne_of_gt T4.lt, T4.app, f4.trans .app⟩
  rintro τ7 h7 ⟨g, rfl, e7, ng, T7, f7⟩
  refine ss_mid (fun τ' h' => ∃ (g : Nat) (ds : List D) (a b k : Option D), τ' = [some (.ref t), some (.ref p), some (.int m), some (.int z), some (.int c), some (.int f), none, some (.ref g), a, b, k] ∧ h'[g]? = some (.lst ds) ∧ g ≠ t ∧ (∀ x ∈ ds, El x) ∧ (ds.length : Int) ≤ z + 4 ∧ Tape t h' ∧ Fr t h h') ?_ ?_
  · simp (maxSteps := 2000000) (disch := decide) only [↓zdg, ↓zbx, ↓FL.then_nx, ↓FL.then_rt, ↓FL.then_bk, ↓FL.then_ct, ↓zbu, ↓zbv, ↓zcz, ↓zew, ↓zdc, ↓zex, ↓zdd, ↓zbw, ↓zev, ↓zeu, ↓zet, ↓zcy, ↓zda, ↓zdb, ↓zde, ↓zey, ↓zes, ↓zbi, ↓zfx, ↓zfy, ↓zci, ↓zcj, ↓zfp, ↓zbh, ↓zfh, ↓zfn, ↓zga, ↓zfl, ↓zdp, ↓zdo, ↓zfm, ↓zff, ↓zfk, ↓zgc, ↓zfd, ↓zgd, ↓zfq, ↓or1, ↓and2, ↓or2, ↓zdr, ↓zfs, ↓zds, ↓zft, ↓zfg, ↓zeg, ↓zcr, ↓zfo, ↓zfj, ↓zgb, ↓zfr, ↓zer, ↓zbk, ↓zge, ↓zfz, ↓zfi, ↓zdm, ↓zfe, ↓zdn, ↓zca, ↓zcb, ↓zfa, ↓zfv, ↓zez, ↓zfw, ↓zfc, ↓zfu, ↓zfb, ↓zdj, ↓zcd, ↓zdk, ↓zbl, ↓zdy, ↓zcf, ↓zdz, ↓zcg, ↓zbz, ↓zcc, ↓zdi, ↓zei, ↓zeh, ↓zdx, ↓zdw, ↓zdu, ↓zdq, ↓zea, ↓zcs, ↓zct, ↓zen, ↓zbg, ↓zcv, ↓zcu, ↓zcx, ↓zce, ↓reduceIte, and_self, ↓zbt, ↓zcq, ↓zbs, ↓zbm, ↓zdl, ↓zdf, ↓zby, ↓zec, ↓zed, ↓zee, ↓zef, ↓zdv, ↓zdt, ↓zem, ↓zek, ↓zel, ↓zej, ↓zcl, ↓zeb, ↓zck, ↓zcn, ↓zco, ↓zcm, ↓zbo, ↓zcp, ↓zbn, ↓zbq, ↓zbr, ↓zbp, ↓zal, ↓zak, ↓zai, ↓zba, ↓zaj, ↓zax, ↓zaw, ↓zau, ↓zbe, ↓zav, ↓zad, ↓zac, ↓zaa, ↓zay, ↓zab, ↓zap, ↓zao, ↓zam, ↓zbb, ↓zan, ↓zat, ↓zas, ↓zaq, ↓zbc, ↓zar, ↓zah, ↓zag, ↓zae, ↓zaz, ↓zaf, Bool.not_true, Bool.not_false, Bool.false_eq_true, zbf, zbd, ↓sl0, ↓sl1, ↓sl2, ↓sl3, ↓sl4, ↓sl5, ↓sl6, ↓sl7, ↓sl8, true_and, and_true, zbj, decide_true, decide_false, List.getElem?_cons_zero, List.getElem?_cons_succ, List.set_cons_zero, List.set_cons_succ, tT9_4]
    refine rngD_i (by omega) (by omega) ?_
    refine for_sat (fun _ τ' h' => ∃ (g : Nat) (ds : List D) (a b k : Option D), τ' = [some (.ref t), some (.ref p), some (.int m), some (.int z), some (.int c), some (.int f), none, some (.ref g), a, b, k] ∧ h'[g]? = some (.lst ds) ∧ g ≠ t ∧ (∀ x ∈ ds, El x) ∧ (ds.length : Int) ≤ z + 4 ∧ Tape t h' ∧ Fr t h h')
      ⟨g, [], _, _, _, rfl, e7, ng, by simp, (by show ((0 : Nat) : Int) ≤ _; omega), T7, f7⟩ (fun _ _ _ _ _ _ z => nomatch z) (fun i τ' h' d hd ⟨g', ds, a, b, k, eτ, e', n', el, hl, T', f'⟩ => ?_) fun τ' h' s => s
    subst eτ
    refine ⟨_, rfl, ?_⟩
    simp (maxSteps := 2000000) (disch := decide) only [↓zdg, ↓zbx, ↓FL.then_nx, ↓FL.then_rt, ↓FL.then_bk, ↓FL.then_ct, ↓zbu, ↓zbv, ↓zcz, ↓zew, ↓zdc, ↓zex, ↓zdd, ↓zbw, ↓zev, ↓zeu, ↓zet, ↓zcy, ↓zda, ↓zdb, ↓zde, ↓zey, ↓zes, ↓zbi, ↓zfx, ↓zfy, ↓zci, ↓zcj, ↓zfp, ↓zbh, ↓zfh, ↓zfn, ↓zga, ↓zfl, ↓zdp, ↓zdo, ↓zfm, ↓zff, ↓zfk, ↓zgc, ↓zfd, ↓zgd, ↓zfq, ↓or1, ↓and2, ↓or2, ↓zdr, ↓zfs, ↓zds, ↓zft, ↓zfg, ↓zeg, ↓zcr, ↓zfo, ↓zfj, ↓zgb, ↓zfr, ↓zer, ↓zbk, ↓zge, ↓zfz, ↓zfi, ↓zdm, ↓zfe, ↓zdn, ↓zca, ↓zcb, ↓zfa, ↓zfv, ↓zez, ↓zfw, ↓zfc, ↓zfu, ↓zfb, ↓zdj, ↓zcd, ↓zdk, ↓zbl, ↓zdy, ↓zcf, ↓zdz, ↓zcg, ↓zbz, ↓zcc, ↓zdi, ↓zei, ↓zeh, ↓zdx, ↓zdw, ↓zdu, ↓zdq, ↓zea, ↓zcs, ↓zct, ↓zen, ↓zbg, ↓zcv, ↓zcu, ↓zcx, ↓zce, ↓reduceIte, and_self, ↓zbt, ↓zcq, ↓zbs, ↓zbm, ↓zdl, ↓zdf, ↓zby, ↓zec, ↓zed, ↓zee, ↓zef, ↓zdv, ↓zdt, ↓zem, ↓zek, ↓zel, ↓zej, ↓zcl, ↓zeb, ↓zck, ↓zcn, ↓zco, ↓zcm, ↓zbo, ↓zcp, ↓zbn, ↓zbq, ↓zbr, ↓zbp, ↓zal, ↓zak, ↓zai, ↓zba, ↓zaj, ↓zax, ↓zaw, ↓zau, ↓zbe, ↓zav, ↓zad, ↓zac, ↓zaa, ↓zay, ↓zab, ↓zap, ↓zao, ↓zam, ↓zbb, ↓zan, ↓zat, ↓zas, ↓zaq, ↓zbc, ↓zar, ↓zah, ↓zag, ↓zae, ↓zaz, ↓zaf, Bool.not_true, Bool.not_false, Bool.false_eq_true, zbf, zbd, ↓sl0, ↓sl1, ↓sl2, ↓sl3, ↓sl4, ↓sl5, ↓sl6, ↓sl7, ↓sl8, true_and, and_true, zbj, decide_true, decide_false, List.getElem?_cons_zero, List.getElem?_cons_succ, List.set_cons_zero, List.set_cons_succ, tT9_4, ↓len_ref e']
    have grow : ∀ (k : Int) (h1 h2 : Hd) (x : D) (P : D → Hd → Prop), 0 ≤ k → k ≤ 4 → (ds.length : Int) < z → El x → Tape t h2 → Fr t h h2 → h2[g']? = some (.lst ds) →
        (∀ g'' ds' h3, h3[g'']? = some (.lst ds') → g'' ≠ t → (∀ x ∈ ds', El x) → (ds'.length : Int) ≤ z + 4 → Tape t h3 → Fr t h h3 → P (.ref g'') h3) →
        vO (semO .mul (.ref h2.length) (.int k) (h2 ++ [.lst [x]])) fun y h3 => vO (semO .add (.ref g') y h3) P := fun k h1 h2 x P k0 k4 hz' ex T2 f2 e2 fin => by
      refine (mul_rep app_new k0 (by omega) (by show 1 ≤ 1000; decide)).mpr ?_
      have rl : (List.replicate k.toNat [x]).flatten.length = k.toNat := by simp
      refine (add_ll (app_at (app_at e2)) app_new (by rw [rl]; omega)).mpr ?_
      refine fin _ _ _ app_new (Nat.ne_of_gt (T2.app.app).lt) (fun y hy => ?_) (by rw [List.length_append, rl]; omega) T2.app.app.app (((f2.trans .app).trans .app).trans .app)
      rcases List.mem_append.mp hy with w | w
      · exact el y w
      · obtain ⟨l, hl', hy'⟩ := List.mem_flatten.mp w
        rw [List.eq_of_mem_replicate hl'] at hy'
        rw [List.mem_singleton.mp hy']; exact ex
    by_cases c1 : (ds.length : Int) < z
    · rw [if_pos (decide_eq_true c1)]
      by_cases c2 : c = 2
      · rw [if_pos (decide_eq_true c2)]
        refine draw_v T' (by decide) (by decide) fun v1 h1 a1 b1 T1 f1 => ?_
        refine zcc.mpr ?_
        refine pick_v T1 n (q.fr (f'.trans f1) n) fun x h2 ex T2 f2 => ?_
        skip
        refine grow _ h1 h2 x _ (by omega) (by omega) c1 ex T2 ((f'.trans f1).trans f2) ((f1.trans f2).keep _ _ n' e') fun g2 ds' h3 r1 r2 r3 r4 r5 r6 => ?_
        exact ⟨g2, ds', _, _, _, rfl, r1, r2, r3, r4, r5, r6⟩
      · rw [if_neg (by simp [c2])]
        refine pick_v T' n (q.fr f' n) fun x h2 ex T2 f2 => ?_
        skip
        refine grow _ h' h2 x _ (by decide) (by decide) c1 ex T2 (f'.trans f2) (f2.keep _ _ n' e') fun g2 ds' h3 r1 r2 r3 r4 r5 r6 => ?_
        exact ⟨g2, ds', _, _, _, rfl, r1, r2, r3, r4, r5, r6⟩
    · rw [if_neg (by simp [c1])]
      exact ⟨g', ds, _, _, _, rfl, e', n', el, hl, T', f'⟩
  rintro τ8 h8 ⟨g', ds, a, b, k, rfl, e', n', el, hl, T', f'⟩
  simp (maxSteps := 2000000) (disch := decide) only [↓zdg, ↓zbx, ↓FL.then_nx, ↓FL.then_rt, ↓FL.then_bk, ↓FL.then_ct, ↓zbu, ↓zbv, ↓zcz, ↓zew, ↓zdc, ↓zex, ↓zdd, ↓zbw, ↓zev, ↓zeu, ↓zet, ↓zcy, ↓zda, ↓zdb, ↓zde, ↓zey, ↓zes, ↓zbi, ↓zfx, ↓zfy, ↓zci, ↓zcj, ↓zfp, ↓zbh, ↓zfh, ↓zfn, ↓zga, ↓zfl, ↓zdp, ↓zdo, ↓zfm, ↓zff, ↓zfk, ↓zgc, ↓zfd, ↓zgd, ↓zfq, ↓or1, ↓and2, ↓or2, ↓zdr, ↓zfs, ↓zds, ↓zft, ↓zfg, ↓zeg, ↓zcr, ↓zfo, ↓zfj, ↓zgb, ↓zfr, ↓zer, ↓zbk, ↓zge, ↓zfz, ↓zfi, ↓zdm, ↓zfe, ↓zdn, ↓zca, ↓zcb, ↓zfa, ↓zfv, ↓zez, ↓zfw, ↓zfc, ↓zfu, ↓zfb, ↓zdj, ↓zcd, ↓zdk, ↓zbl, ↓zdy, ↓zcf, ↓zdz, ↓zcg, ↓zbz, ↓zcc, ↓zdi, ↓zei, ↓zeh, ↓zdx, ↓zdw, ↓zdu, ↓zdq, ↓zea, ↓zcs, ↓zct, ↓zen, ↓zbg, ↓zcv, ↓zcu, ↓zcx, ↓zce, ↓reduceIte, and_self, ↓zbt, ↓zcq, ↓zbs, ↓zbm, ↓zdl, ↓zdf, ↓zby, ↓zec, ↓zed, ↓zee, ↓zef, ↓zdv, ↓zdt, ↓zem, ↓zek, ↓zel, ↓zej, ↓zcl, ↓zeb, ↓zck, ↓zcn, ↓zco, ↓zcm, ↓zbo, ↓zcp, ↓zbn, ↓zbq, ↓zbr, ↓zbp, ↓zal, ↓zak, ↓zai, ↓zba, ↓zaj, ↓zax, ↓zaw, ↓zau, ↓zbe, ↓zav, ↓zad, ↓zac, ↓zaa, ↓zay, ↓zab, ↓zap, ↓zao, ↓zam, ↓zbb, ↓zan, ↓zat, ↓zas, ↓zaq, ↓zbc, ↓zar, ↓zah, ↓zag, ↓zae, ↓zaz, ↓zaf, Bool.not_true, Bool.not_false, Bool.false_eq_true, zbf, zbd, ↓sl0, ↓sl1, ↓sl2, ↓sl3, ↓sl4, ↓sl5, ↓sl6, ↓sl7, ↓sl8, true_and, and_true, zbj, decide_true, decide_false, List.getElem?_cons_zero, List.getElem?_cons_succ, List.set_cons_zero, List.set_cons_succ, tT9_4]
  refine (sl_ref e').mpr ((tuple_v (seqOf_ref app_new)).mpr ?_)
  exact ⟨⟨_, rfl, Int.le_trans (cut_len hz.1) hz.2, fun x hx => el x (cut_mem hx)⟩, T'.app, f'.trans .app⟩
end DL

set_option Elab.async false
set_option linter.all false
set_option maxRecDepth 100000
set_option maxHeartbeats 4000000
namespace DL
open PySem PySem.Spec PyProof.Rows L2
inductive Vd : Nat → D → Prop
  | bl (n : Nat) (b : Bool) : Vd n (.bl b)
  | non (n : Nat) : Vd n .non
  | int (n : Nat) (i : Int) : Vd n (.int i)
  | str (n : Nat) (x : Str) : Vd n (.str x)
  | tup (n : Nat) (ds : List D) (hl : ds.length ≤ 100000) (h : ∀ d ∈ ds, Vd n d) : Vd (n + 1) (.tup ds)
theorem alike_sat : ∀ (n : Nat) (d : D) (h : Hd), Vd n d → (fG15 (n + 1) [d, d] h).sat fun r h' => r = .bl true ∧ Kp h h' := by
  intro n
  induction n with
  | zero =>
    intro d h hv
    refine runP_v (C := tT15 (fG15 0)) (body := bB15) (n := 3) (p := 2) (σ := [some d, some d, none]) (by rfl) (by rfl) ?_
    unfold bB15
    cases hv <;> simp (maxSteps := 4000000) (disch := decide) only [↓zdg, ↓zbx, ↓FL.then_nx, ↓FL.then_rt, ↓FL.then_bk, ↓FL.then_ct, ↓zbu, ↓zbv, ↓zcz, ↓zew, ↓zdc, ↓zex, ↓zdd, ↓zbw, ↓zev, ↓zeu, ↓zet, ↓zcy, ↓zda, ↓zdb, ↓zde, ↓zey, ↓zes, ↓zbi, ↓zfx, ↓zfy, ↓zci, ↓zcj, ↓zfp, ↓zbh, ↓zfh, ↓zfn, ↓zga, ↓zfl, ↓zdp, ↓zdo, ↓zfm, ↓zff, ↓zfk, ↓zgc, ↓zfd, ↓zgd, ↓zfq, ↓or1, ↓and2, ↓or2, ↓zdr, ↓zfs, ↓zds, ↓zft, ↓zfg, ↓zeg, ↓zcr, ↓zfo, ↓zfj, ↓zgb, ↓zfr, ↓zer, ↓zbk, ↓zge, ↓zfz, ↓zfi, ↓zdm, ↓zfe, ↓zdn, ↓zca, ↓zcb, ↓zfa, ↓zfv, ↓zez, ↓zfw, ↓zfc, ↓zfu, ↓zfb, ↓zdj, ↓zcd, ↓zdk, ↓zbl, ↓zdy, ↓zcf, ↓zdz, ↓zcg, ↓zbz, ↓zcc, ↓zdi, ↓zei, ↓zeh, ↓zdx, ↓zdw, ↓zdu, ↓zdq, ↓zea, ↓zcs, ↓zct, ↓zen, ↓zbg, ↓zcv, ↓zcu, ↓zcx, ↓zce, ↓reduceIte, and_self, ↓zbt, ↓zcq, ↓zbs, ↓zbm, ↓zdl, ↓zdf, ↓zby, ↓zec, ↓zed, ↓zee, ↓zef, ↓zdv, ↓zdt, ↓zem, ↓zek, ↓zel, ↓zej, ↓zcl, ↓zeb, ↓zck, ↓zcn, ↓zco, ↓zcm, ↓zbo, ↓zcp, ↓zbn, ↓zbq, ↓zbr, ↓zbp, ↓zal, ↓zak, ↓zai, ↓zba, ↓zaj, ↓zax, ↓zaw, ↓zau, ↓zbe, ↓zav, ↓zad, ↓zac, ↓zaa, ↓zay, ↓zab, ↓zap, ↓zao, ↓zam, ↓zbb, ↓zan, ↓zat, ↓zas, ↓zaq, ↓zbc, ↓zar, ↓zah, ↓zag, ↓zae, ↓zaz, ↓zaf, Bool.not_true, Bool.not_false, Bool.false_eq_true, zbf, zbd, ↓sl0, ↓sl1, ↓sl2, ↓sl3, ↓sl4, ↓sl5, ↓sl6, ↓sl7, ↓sl8, true_and, and_true, zbj, decide_true, decide_false, List.getElem?_cons_zero, List.getElem?_cons_succ, List.set_cons_zero, List.set_cons_succ, tt15_15] <;> exact .refl
  | succ n ih =>
    intro d h hv
    refine runP_v (C := tT15 (fG15 (n + 1))) (body := bB15) (n := 3) (p := 2) (σ := [some d, some d, none]) (by rfl) (by rfl) ?_
    unfold bB15
    cases hv with
    | tup _ ds hl hd =>
      simp (maxSteps := 4000000) (disch := decide) only [↓zdg, ↓zbx, ↓FL.then_nx, ↓FL.then_rt, ↓FL.then_bk, ↓FL.then_ct, ↓zbu, ↓zbv, ↓zcz, ↓zew, ↓zdc, ↓zex, ↓zdd, ↓zbw, ↓zev, ↓zeu, ↓zet, ↓zcy, ↓zda, ↓zdb, ↓zde, ↓zey, ↓zes, ↓zbi, ↓zfx, ↓zfy, ↓zci, ↓zcj, ↓zfp, ↓zbh, ↓zfh, ↓zfn, ↓zga, ↓zfl, ↓zdp, ↓zdo, ↓zfm, ↓zff, ↓zfk, ↓zgc, ↓zfd, ↓zgd, ↓zfq, ↓or1, ↓and2, ↓or2, ↓zdr, ↓zfs, ↓zds, ↓zft, ↓zfg, ↓zeg, ↓zcr, ↓zfo, ↓zfj, ↓zgb, ↓zfr, ↓zer, ↓zbk, ↓zge, ↓zfz, ↓zfi, ↓zdm, ↓zfe, ↓zdn, ↓zca, ↓zcb, ↓zfa, ↓zfv, ↓zez, ↓zfw, ↓zfc, ↓zfu, ↓zfb, ↓zdj, ↓zcd, ↓zdk, ↓zbl, ↓zdy, ↓zcf, ↓zdz, ↓zcg, ↓zbz, ↓zcc, ↓zdi, ↓zei, ↓zeh, ↓zdx, ↓zdw, ↓zdu, ↓zdq, ↓zea, ↓zcs, ↓zct, ↓zen, ↓zbg, ↓zcv, ↓zcu, ↓zcx, ↓zce, ↓reduceIte, and_self, ↓zbt, ↓zcq, ↓zbs, ↓zbm, ↓zdl, ↓zdf, ↓zby, ↓zec, ↓zed, ↓zee, ↓zef, ↓zdv, ↓zdt, ↓zem, ↓zek, ↓zel, ↓zej, ↓zcl, ↓zeb, ↓zck, ↓zcn, ↓zco, ↓zcm, ↓zbo, ↓zcp, ↓zbn, ↓zbq, ↓zbr, ↓zbp, ↓zal, ↓zak, ↓zai, ↓zba, ↓zaj, ↓zax, ↓zaw, ↓zau, ↓zbe, ↓zav, ↓zad, ↓zac, ↓zaa, ↓zay, ↓zab, ↓zap, ↓zao, ↓zam, ↓zbb, ↓zan, ↓zat, ↓zas, ↓zaq, ↓zbc, ↓zar, ↓zah, ↓zag, ↓zae, ↓zaz, ↓zaf, Bool.not_true, Bool.not_false, Bool.false_eq_true, zbf, zbd, ↓sl0, ↓sl1, ↓sl2, ↓sl3, ↓sl4, ↓sl5, ↓sl6, ↓sl7, ↓sl8, true_and, and_true, zbj, decide_true, decide_false, List.getElem?_cons_zero, List.getElem?_cons_succ, List.set_cons_zero, List.set_cons_succ, tt15_15]
      refine rngD_nat (by omega) ?_
      refine vCo_yes (fun i acc h' => acc = [] ∧ Kp h h') ⟨rfl, .refl⟩ (fun _ _ _ _ _ _ z => nomatch z) (fun i acc h' x hx ⟨ea, k⟩ => ?_) fun acc h' ⟨ea, k⟩ => ?_
      · obtain ⟨hi, rfl⟩ := rng_get hx
        have e1 := List.getElem?_eq_getElem hi
        refine ⟨_, rfl, ?_⟩
        simp (maxSteps := 4000000) (disch := decide) only [↓zdg, ↓zbx, ↓FL.then_nx, ↓FL.then_rt, ↓FL.then_bk, ↓FL.then_ct, ↓zbu, ↓zbv, ↓zcz, ↓zew, ↓zdc, ↓zex, ↓zdd, ↓zbw, ↓zev, ↓zeu, ↓zet, ↓zcy, ↓zda, ↓zdb, ↓zde, ↓zey, ↓zes, ↓zbi, ↓zfx, ↓zfy, ↓zci, ↓zcj, ↓zfp, ↓zbh, ↓zfh, ↓zfn, ↓zga, ↓zfl, ↓zdp, ↓zdo, ↓zfm, ↓zff, ↓zfk, ↓zgc, ↓zfd, ↓zgd, ↓zfq, ↓or1, ↓and2, ↓or2, ↓zdr, ↓zfs, ↓zds, ↓zft, ↓zfg, ↓zeg, ↓zcr, ↓zfo, ↓zfj, ↓zgb, ↓zfr, ↓zer, ↓zbk, ↓zge, ↓zfz, ↓zfi, ↓zdm, ↓zfe, ↓zdn, ↓zca, ↓zcb, ↓zfa, ↓zfv, ↓zez, ↓zfw, ↓zfc, ↓zfu, ↓zfb, ↓zdj, ↓zcd, ↓zdk, ↓zbl, ↓zdy, ↓zcf, ↓zdz, ↓zcg, ↓zbz, ↓zcc, ↓zdi, ↓zei, ↓zeh, ↓zdx, ↓zdw, ↓zdu, ↓zdq, ↓zea, ↓zcs, ↓zct, ↓zen, ↓zbg, ↓zcv, ↓zcu, ↓zcx, ↓zce, ↓reduceIte, and_self, ↓zbt, ↓zcq, ↓zbs, ↓zbm, ↓zdl, ↓zdf, ↓zby, ↓zec, ↓zed, ↓zee, ↓zef, ↓zdv, ↓zdt, ↓zem, ↓zek, ↓zel, ↓zej, ↓zcl, ↓zeb, ↓zck, ↓zcn, ↓zco, ↓zcm, ↓zbo, ↓zcp, ↓zbn, ↓zbq, ↓zbr, ↓zbp, ↓zal, ↓zak, ↓zai, ↓zba, ↓zaj, ↓zax, ↓zaw, ↓zau, ↓zbe, ↓zav, ↓zad, ↓zac, ↓zaa, ↓zay, ↓zab, ↓zap, ↓zao, ↓zam, ↓zbb, ↓zan, ↓zat, ↓zas, ↓zaq, ↓zbc, ↓zar, ↓zah, ↓zag, ↓zae, ↓zaz, ↓zaf, Bool.not_true, Bool.not_false, Bool.false_eq_true, zbf, zbd, ↓sl0, ↓sl1, ↓sl2, ↓sl3, ↓sl4, ↓sl5, ↓sl6, ↓sl7, ↓sl8, true_and, and_true, zbj, decide_true, decide_false, List.getElem?_cons_zero, List.getElem?_cons_succ, List.set_cons_zero, List.set_cons_succ, wipeD, tt15_15, ↓ix_tup (atI_nat e1)]
        refine vC.mono (ih _ _ (hd _ (List.getElem_mem hi))) fun r h2 ⟨er, k2⟩ => ?_
        subst er
        simp (maxSteps := 4000000) (disch := decide) only [↓zdg, ↓zbx, ↓FL.then_nx, ↓FL.then_rt, ↓FL.then_bk, ↓FL.then_ct, ↓zbu, ↓zbv, ↓zcz, ↓zew, ↓zdc, ↓zex, ↓zdd, ↓zbw, ↓zev, ↓zeu, ↓zet, ↓zcy, ↓zda, ↓zdb, ↓zde, ↓zey, ↓zes, ↓zbi, ↓zfx, ↓zfy, ↓zci, ↓zcj, ↓zfp, ↓zbh, ↓zfh, ↓zfn, ↓zga, ↓zfl, ↓zdp, ↓zdo, ↓zfm, ↓zff, ↓zfk, ↓zgc, ↓zfd, ↓zgd, ↓zfq, ↓or1, ↓and2, ↓or2, ↓zdr, ↓zfs, ↓zds, ↓zft, ↓zfg, ↓zeg, ↓zcr, ↓zfo, ↓zfj, ↓zgb, ↓zfr, ↓zer, ↓zbk, ↓zge, ↓zfz, ↓zfi, ↓zdm, ↓zfe, ↓zdn, ↓zca, ↓zcb, ↓zfa, ↓zfv, ↓zez, ↓zfw, ↓zfc, ↓zfu, ↓zfb, ↓zdj, ↓zcd, ↓zdk, ↓zbl, ↓zdy, ↓zcf, ↓zdz, ↓zcg, ↓zbz, ↓zcc, ↓zdi, ↓zei, ↓zeh, ↓zdx, ↓zdw, ↓zdu, ↓zdq, ↓zea, ↓zcs, ↓zct, ↓zen, ↓zbg, ↓zcv, ↓zcu, ↓zcx, ↓zce, ↓reduceIte, and_self, ↓zbt, ↓zcq, ↓zbs, ↓zbm, ↓zdl, ↓zdf, ↓zby, ↓zec, ↓zed, ↓zee, ↓zef, ↓zdv, ↓zdt, ↓zem, ↓zek, ↓zel, ↓zej, ↓zcl, ↓zeb, ↓zck, ↓zcn, ↓zco, ↓zcm, ↓zbo, ↓zcp, ↓zbn, ↓zbq, ↓zbr, ↓zbp, ↓zal, ↓zak, ↓zai, ↓zba, ↓zaj, ↓zax, ↓zaw, ↓zau, ↓zbe, ↓zav, ↓zad, ↓zac, ↓zaa, ↓zay, ↓zab, ↓zap, ↓zao, ↓zam, ↓zbb, ↓zan, ↓zat, ↓zas, ↓zaq, ↓zbc, ↓zar, ↓zah, ↓zag, ↓zae, ↓zaz, ↓zaf, Bool.not_true, Bool.not_false, Bool.false_eq_true, zbf, zbd, ↓sl0, ↓sl1, ↓sl2, ↓sl3, ↓sl4, ↓sl5, ↓sl6, ↓sl7, ↓sl8, true_and, and_true, zbj, decide_true, decide_false, List.getElem?_cons_zero, List.getElem?_cons_succ, List.set_cons_zero, List.set_cons_succ]
        exact ⟨ea, k.trans k2⟩
      · subst ea
        refine ⟨Nat.zero_le _, ?_⟩
        refine (len_ref app_new).mpr ?_
        refine zdu.mpr ?_
        exact ⟨rfl, k.more⟩
    | _ => simp (maxSteps := 4000000) (disch := decide) only [↓zdg, ↓zbx, ↓FL.then_nx, ↓FL.then_rt, ↓FL.then_bk, ↓FL.then_ct, ↓zbu, ↓zbv, ↓zcz, ↓zew, ↓zdc, ↓zex, ↓zdd, ↓zbw, ↓zev, ↓zeu, ↓zet, ↓zcy, ↓zda, ↓zdb, ↓zde, ↓zey, ↓zes, ↓zbi, ↓zfx, ↓zfy, ↓zci, ↓zcj, ↓zfp, ↓zbh, ↓zfh, ↓zfn, ↓zga, ↓zfl, ↓zdp, ↓zdo, ↓zfm, ↓zff, ↓zfk, ↓zgc, ↓zfd, ↓zgd, ↓zfq, ↓or1, ↓and2, ↓or2, ↓zdr, ↓zfs, ↓zds, ↓zft, ↓zfg, ↓zeg, ↓zcr, ↓zfo, ↓zfj, ↓zgb, ↓zfr, ↓zer, ↓zbk, ↓zge, ↓zfz, ↓zfi, ↓zdm, ↓zfe, ↓zdn, ↓zca, ↓zcb, ↓zfa, ↓zfv, ↓zez, ↓zfw, ↓zfc, ↓zfu, ↓zfb, ↓zdj, ↓zcd, ↓zdk, ↓zbl, ↓zdy, ↓zcf, ↓zdz, ↓zcg, ↓zbz, ↓zcc, ↓zdi, ↓zei, ↓zeh, ↓zdx, ↓zdw, ↓zdu, ↓zdq, ↓zea, ↓zcs, ↓zct, ↓zen, ↓zbg, ↓zcv, ↓zcu, ↓zcx, ↓zce, ↓reduceIte, and_self, ↓zbt, ↓zcq, ↓zbs, ↓zbm, ↓zdl, ↓zdf, ↓zby, ↓zec, ↓zed, ↓zee, ↓zef, ↓zdv, ↓zdt, ↓zem, ↓zek, ↓zel, ↓zej, ↓zcl, ↓zeb, ↓zck, ↓zcn, ↓zco, ↓zcm, ↓zbo, ↓zcp, ↓zbn, ↓zbq, ↓zbr, ↓zbp, ↓zal, ↓zak, ↓zai, ↓zba, ↓zaj, ↓zax, ↓zaw, ↓zau, ↓zbe, ↓zav, ↓zad, ↓zac, ↓zaa, ↓zay, ↓zab, ↓zap, ↓zao, ↓zam, ↓zbb, ↓zan, ↓zat, ↓zas, ↓zaq, ↓zbc, ↓zar, ↓zah, ↓zag, ↓zae, ↓zaz, ↓zaf, Bool.not_true, Bool.not_false, Bool.false_eq_true, zbf, zbd, ↓sl0, ↓sl1, ↓sl2, ↓sl3, ↓sl4, ↓sl5, ↓sl6, ↓sl7, ↓sl8, true_and, and_true, zbj, decide_true, decide_false, List.getElem?_cons_zero, List.getElem?_cons_succ, List.set_cons_zero, List.set_cons_succ, tt15_15]; exact .refl
theorem alike_v {E : XP} {P : D → Hd → Prop} {d : D} {h : Hd} (hv : Vd 7 d) (q : ∀ h', Kp h h' → P (.bl true) h') : vC (E := E) fF15 [d, d] h P :=
  vC.mono (alike_sat 7 d h hv) fun r h' ⟨e, k⟩ => e ▸ q h' k
end DL

set_option Elab.async false
set_option linter.all false
set_option maxRecDepth 100000
set_option maxHeartbeats 4000000
namespace DL
open PySem PySem.Spec PyProof.Rows L2
theorem Kp.fr {t : Nat} {h h' : Hd} (k : Kp h h') : Fr t h h' := ⟨k.len, fun i o _ e => k.keep i o e⟩
theorem Tape.kp {t : Nat} {h h' : Hd} (T : Tape t h) (k : Kp h h') : Tape t h' := by
  obtain ⟨s, a, b, c, ns, e1, e2, e3⟩ := T.ex
  exact ⟨s, a, b, c, ns, k.keep _ _ e1, k.keep _ _ e2, e3⟩
theorem Tape.sput {t n : Nat} {h : Hd} {o : OD} (T : Tape t h) (e : t < n) : Tape t (h.set n o) := by
  obtain ⟨s, a, b, c, ns, e1, r1, r2, r3⟩ := T.ex
  exact ⟨s, a, b, c, ns, by rw [List.getElem?_set_ne (Nat.ne_of_gt e)]; exact e1, by rw [List.getElem?_set_ne (by omega)]; exact r1, r2, r3⟩
theorem Fr.put {t n : Nat} {h h1 : Hd} {o : OD} (f : Fr t h h1) (e : h.length ≤ n) : Fr t h (h1.set n o) := ⟨by rw [List.length_set]; exact f.len, fun i u ni ei => by
  rw [List.getElem?_set_ne (by have := (List.getElem?_eq_some_iff.mp ei).1; omega)]
  exact f.keep i u ni ei⟩
theorem Sc.key {d : D} (s : Sc d) : ∃ k : Key, d = kD k := by
  cases s with
  | int i => exact ⟨.inl i, rfl⟩
  | str x _ => exact ⟨.inr x, rfl⟩
theorem kD_pure (k : Key) : (kD k).pure = true ∧ (kD k).depth ≤ 30 := by cases k <;> exact ⟨rfl, Nat.zero_le _⟩
theorem kD_pures (ks : List Key) : D.pures (ks.map kD) = true := pures_of fun x hx => by
  obtain ⟨k, _, rfl⟩ := List.mem_map.mp hx
  exact (kD_pure k).1
theorem keys_v {E : XP} {P : D → Hd → Prop} {t : Nat} {h : Hd} (T : Tape t h) (q : ∀ n (ks : List Key) h', n ≠ t → h.length ≤ n → h'[n]? = some (.lst (ks.map kD)) → 0 < ks.length → ks.length ≤ 7 → Tape t h' → Fr t h h' → P (.ref n) h') : vC (E := E) fF21 [.ref t] h P := by
  refine vC.mono (P := fun d h' => ∃ n ks, d = .ref n ∧ n ≠ t ∧ h.length ≤ n ∧ h'[n]? = some (.lst (ks.map kD)) ∧ 0 < ks.length ∧ ks.length ≤ 7 ∧ Tape t h' ∧ Fr t h h') ?_ fun d h' ⟨n, ks, e, r1, r2, r3, r4, r5, r6, r7⟩ => e ▸ q n ks h' r1 r2 r3 r4 r5 r6 r7
  have tl := T.lt
  refine runP_v (σ := [some (.ref t), none, none, none]) (by rfl) (by rfl) ?_
  unfold bB21
  simp (maxSteps := 4000000) (disch := decide) only [↓zdg, ↓zbx, ↓FL.then_nx, ↓FL.then_rt, ↓FL.then_bk, ↓FL.then_ct, ↓zbu, ↓zbv, ↓zcz, ↓zew, ↓zdc, ↓zex, ↓zdd, ↓zbw, ↓zev, ↓zeu, ↓zet, ↓zcy, ↓zda, ↓zdb, ↓zde, ↓zey, ↓zes, ↓zbi, ↓zfx, ↓zfy, ↓zci, ↓zcj, ↓zfp, ↓zbh, ↓zfh, ↓zfn, ↓zga, ↓zfl, ↓zdp, ↓zdo, ↓zfm, ↓zff, ↓zfk, ↓zgc, ↓zfd, ↓zgd, ↓zfq, ↓or1, ↓and2, ↓or2, ↓zdr, ↓zfs, ↓zds, ↓zft, ↓zfg, ↓zeg, ↓zcr, ↓zfo, ↓zfj, ↓zgb, ↓zfr, ↓zer, ↓zbk, ↓zge, ↓zfz, ↓zfi, ↓zdm, ↓zfe, ↓zdn, ↓zca, ↓zcb, ↓zfa, ↓zfv, ↓zez, ↓zfw, ↓zfc, ↓zfu, ↓zfb, ↓zdj, ↓zcd, ↓zdk, ↓zbl, ↓zdy, ↓zcf, ↓zdz, ↓zcg, ↓zch, ↓zbz, ↓zcc, ↓zdi, ↓zei, ↓zeh, ↓zdx, ↓zdw, ↓zdu, ↓zdq, ↓zea, ↓zcs, ↓zct, ↓zen, ↓zbg, ↓zcv, ↓zcu, ↓zcx, ↓zce, ↓reduceIte, and_self, ↓zbt, ↓zcq, ↓zbs, ↓zbm, ↓zdl, ↓zdf, ↓zby, ↓zec, ↓zed, ↓zee, ↓zef, ↓zdv, ↓zdt, ↓zem, ↓zek, ↓zel, ↓zej, ↓zcl, ↓zeb, ↓zck, ↓zcn, ↓zco, ↓zcm, ↓zbo, ↓zcp, ↓zbn, ↓zbq, ↓zbr, ↓zbp, ↓zal, ↓zak, ↓zai, ↓zba, ↓zaj, ↓zax, ↓zaw, ↓zau, ↓zbe, ↓zav, ↓zad, ↓zac, ↓zaa, ↓zay, ↓zab, ↓zap, ↓zao, ↓zam, ↓zbb, ↓zan, ↓zat, ↓zas, ↓zaq, ↓zbc, ↓zar, ↓zah, ↓zag, ↓zae, ↓zaz, ↓zaf, Bool.not_true, Bool.not_false, Bool.false_eq_true, zbf, zbd, ↓sl0, ↓sl1, ↓sl2, ↓sl3, ↓sl4, ↓sl5, ↓sl6, ↓sl7, ↓sl8, true_and, and_true, zbj, decide_true, decide_false, List.getElem?_cons_zero, List.getElem?_cons_succ, List.set_cons_zero, List.set_cons_succ, tt21_14, tt21_16]
  refine draw_v T.app (by decide) (by decide) fun v h1 v0 v1 T1 f1 => ?_
  simp (maxSteps := 4000000) (disch := decide) only [↓zdg, ↓zbx, ↓FL.then_nx, ↓FL.then_rt, ↓FL.then_bk, ↓FL.then_ct, ↓zbu, ↓zbv, ↓zcz, ↓zew, ↓zdc, ↓zex, ↓zdd, ↓zbw, ↓zev, ↓zeu, ↓zet, ↓zcy, ↓zda, ↓zdb, ↓zde, ↓zey, ↓zes, ↓zbi, ↓zfx, ↓zfy, ↓zci, ↓zcj, ↓zfp, ↓zbh, ↓zfh, ↓zfn, ↓zga, ↓zfl, ↓zdp, ↓zdo, ↓zfm, ↓zff, ↓zfk, ↓zgc, ↓zfd, ↓zgd, ↓zfq, ↓or1, ↓and2, ↓or2, ↓zdr, ↓zfs, ↓zds, ↓zft, ↓zfg, ↓zeg, ↓zcr, ↓zfo, ↓zfj, ↓zgb, ↓zfr, ↓zer, ↓zbk, ↓zge, ↓zfz, ↓zfi, ↓zdm, ↓zfe, ↓zdn, ↓zca, ↓zcb, ↓zfa, ↓zfv, ↓zez, ↓zfw, ↓zfc, ↓zfu, ↓zfb, ↓zdj, ↓zcd, ↓zdk, ↓zbl, ↓zdy, ↓zcf, ↓zdz, ↓zcg, ↓zch, ↓zbz, ↓zcc, ↓zdi, ↓zei, ↓zeh, ↓zdx, ↓zdw, ↓zdu, ↓zdq, ↓zea, ↓zcs, ↓zct, ↓zen, ↓zbg, ↓zcv, ↓zcu, ↓zcx, ↓zce, ↓reduceIte, and_self, ↓zbt, ↓zcq, ↓zbs, ↓zbm, ↓zdl, ↓zdf, ↓zby, ↓zec, ↓zed, ↓zee, ↓zef, ↓zdv, ↓zdt, ↓zem, ↓zek, ↓zel, ↓zej, ↓zcl, ↓zeb, ↓zck, ↓zcn, ↓zco, ↓zcm, ↓zbo, ↓zcp, ↓zbn, ↓zbq, ↓zbr, ↓zbp, ↓zal, ↓zak, ↓zai, ↓zba, ↓zaj, ↓zax, ↓zaw, ↓zau, ↓zbe, ↓zav, ↓zad, ↓zac, ↓zaa, ↓zay, ↓zab, ↓zap, ↓zao, ↓zam, ↓zbb, ↓zan, ↓zat, ↓zas, ↓zaq, ↓zbc, ↓zar, ↓zah, ↓zag, ↓zae, ↓zaz, ↓zaf, Bool.not_true, Bool.not_false, Bool.false_eq_true, zbf, zbd, ↓sl0, ↓sl1, ↓sl2, ↓sl3, ↓sl4, ↓sl5, ↓sl6, ↓sl7, ↓sl8, true_and, and_true, zbj, decide_true, decide_false, List.getElem?_cons_zero, List.getElem?_cons_succ, List.set_cons_zero, List.set_cons_succ]
  refine rngD_i (by omega) (by omega) ?_
  refine for_sat (fun i τ h' => ∃ ks : List Key, h'[h.length]? = some (.lst (ks.map kD)) ∧ ks.length ≤ i ∧ (0 < i → 0 < ks.length) ∧ Tape t h' ∧ Fr t h h' ∧ ∃ z2 z3, τ = [some (.ref t), some (.ref h.length), z2, z3])
    ⟨[], f1.keep _ _ (Nat.ne_of_gt tl) app_new, Nat.le_refl _, (fun z => absurd z (Nat.lt_irrefl _)), T1, (Fr.app).trans f1, _, _, rfl⟩ (fun _ _ _ _ _ _ z => nomatch z) (fun i τ h' d hd ⟨ks, e0, l0, l1, T', f', z2, z3, eτ⟩ => ?_) fun τ h' ⟨ks, e0, l0, l1, T', f', z2, z3, eτ⟩ => ?_
  · subst eτ
    have hi : i < (1 + v).toNat := by have := (List.getElem?_eq_some_iff.mp hd).1; rwa [rng_len] at this
    refine ⟨_, rfl, ?_⟩
    simp (maxSteps := 4000000) (disch := decide) only [↓zdg, ↓zbx, ↓FL.then_nx, ↓FL.then_rt, ↓FL.then_bk, ↓FL.then_ct, ↓zbu, ↓zbv, ↓zcz, ↓zew, ↓zdc, ↓zex, ↓zdd, ↓zbw, ↓zev, ↓zeu, ↓zet, ↓zcy, ↓zda, ↓zdb, ↓zde, ↓zey, ↓zes, ↓zbi, ↓zfx, ↓zfy, ↓zci, ↓zcj, ↓zfp, ↓zbh, ↓zfh, ↓zfn, ↓zga, ↓zfl, ↓zdp, ↓zdo, ↓zfm, ↓zff, ↓zfk, ↓zgc, ↓zfd, ↓zgd, ↓zfq, ↓or1, ↓and2, ↓or2, ↓zdr, ↓zfs, ↓zds, ↓zft, ↓zfg, ↓zeg, ↓zcr, ↓zfo, ↓zfj, ↓zgb, ↓zfr, ↓zer, ↓zbk, ↓zge, ↓zfz, ↓zfi, ↓zdm, ↓zfe, ↓zdn, ↓zca, ↓zcb, ↓zfa, ↓zfv, ↓zez, ↓zfw, ↓zfc, ↓zfu, ↓zfb, ↓zdj, ↓zcd, ↓zdk, ↓zbl, ↓zdy, ↓zcf, ↓zdz, ↓zcg, ↓zch, ↓zbz, ↓zcc, ↓zdi, ↓zei, ↓zeh, ↓zdx, ↓zdw, ↓zdu, ↓zdq, ↓zea, ↓zcs, ↓zct, ↓zen, ↓zbg, ↓zcv, ↓zcu, ↓zcx, ↓zce, ↓reduceIte, and_self, ↓zbt, ↓zcq, ↓zbs, ↓zbm, ↓zdl, ↓zdf, ↓zby, ↓zec, ↓zed, ↓zee, ↓zef, ↓zdv, ↓zdt, ↓zem, ↓zek, ↓zel, ↓zej, ↓zcl, ↓zeb, ↓zck, ↓zcn, ↓zco, ↓zcm, ↓zbo, ↓zcp, ↓zbn, ↓zbq, ↓zbr, ↓zbp, ↓zal, ↓zak, ↓zai, ↓zba, ↓zaj, ↓zax, ↓zaw, ↓zau, ↓zbe, ↓zav, ↓zad, ↓zac, ↓zaa, ↓zay, ↓zab, ↓zap, ↓zao, ↓zam, ↓zbb, ↓zan, ↓zat, ↓zas, ↓zaq, ↓zbc, ↓zar, ↓zah, ↓zag, ↓zae, ↓zaz, ↓zaf, Bool.not_true, Bool.not_false, Bool.false_eq_true, zbf, zbd, ↓sl0, ↓sl1, ↓sl2, ↓sl3, ↓sl4, ↓sl5, ↓sl6, ↓sl7, ↓sl8, true_and, and_true, zbj, decide_true, decide_false, List.getElem?_cons_zero, List.getElem?_cons_succ, List.set_cons_zero, List.set_cons_succ, tt21_14, tt21_16]
    refine scalar_v T' fun x h2 sx T2 f2 => ?_
    obtain ⟨k, rfl⟩ := sx.key
    have e2 := f2.keep _ _ (Nat.ne_of_gt tl) e0
    simp (maxSteps := 4000000) (disch := decide) only [↓zdg, ↓zbx, ↓FL.then_nx, ↓FL.then_rt, ↓FL.then_bk, ↓FL.then_ct, ↓zbu, ↓zbv, ↓zcz, ↓zew, ↓zdc, ↓zex, ↓zdd, ↓zbw, ↓zev, ↓zeu, ↓zet, ↓zcy, ↓zda, ↓zdb, ↓zde, ↓zey, ↓zes, ↓zbi, ↓zfx, ↓zfy, ↓zci, ↓zcj, ↓zfp, ↓zbh, ↓zfh, ↓zfn, ↓zga, ↓zfl, ↓zdp, ↓zdo, ↓zfm, ↓zff, ↓zfk, ↓zgc, ↓zfd, ↓zgd, ↓zfq, ↓or1, ↓and2, ↓or2, ↓zdr, ↓zfs, ↓zds, ↓zft, ↓zfg, ↓zeg, ↓zcr, ↓zfo, ↓zfj, ↓zgb, ↓zfr, ↓zer, ↓zbk, ↓zge, ↓zfz, ↓zfi, ↓zdm, ↓zfe, ↓zdn, ↓zca, ↓zcb, ↓zfa, ↓zfv, ↓zez, ↓zfw, ↓zfc, ↓zfu, ↓zfb, ↓zdj, ↓zcd, ↓zdk, ↓zbl, ↓zdy, ↓zcf, ↓zdz, ↓zcg, ↓zch, ↓zbz, ↓zcc, ↓zdi, ↓zei, ↓zeh, ↓zdx, ↓zdw, ↓zdu, ↓zdq, ↓zea, ↓zcs, ↓zct, ↓zen, ↓zbg, ↓zcv, ↓zcu, ↓zcx, ↓zce, ↓reduceIte, and_self, ↓zbt, ↓zcq, ↓zbs, ↓zbm, ↓zdl, ↓zdf, ↓zby, ↓zec, ↓zed, ↓zee, ↓zef, ↓zdv, ↓zdt, ↓zem, ↓zek, ↓zel, ↓zej, ↓zcl, ↓zeb, ↓zck, ↓zcn, ↓zco, ↓zcm, ↓zbo, ↓zcp, ↓zbn, ↓zbq, ↓zbr, ↓zbp, ↓zal, ↓zak, ↓zai, ↓zba, ↓zaj, ↓zax, ↓zaw, ↓zau, ↓zbe, ↓zav, ↓zad, ↓zac, ↓zaa, ↓zay, ↓zab, ↓zap, ↓zao, ↓zam, ↓zbb, ↓zan, ↓zat, ↓zas, ↓zaq, ↓zbc, ↓zar, ↓zah, ↓zag, ↓zae, ↓zaz, ↓zaf, Bool.not_true, Bool.not_false, Bool.false_eq_true, zbf, zbd, ↓sl0, ↓sl1, ↓sl2, ↓sl3, ↓sl4, ↓sl5, ↓sl6, ↓sl7, ↓sl8, true_and, and_true, zbj, decide_true, decide_false, List.getElem?_cons_zero, List.getElem?_cons_succ, List.set_cons_zero, List.set_cons_succ, ↓notin_ref e2 (kD_pure k).1 (kD_pure k).2 (kD_pures ks)]
    split
    · refine app_v e2 (by rw [List.length_map]; omega) ?_
      refine ⟨ks ++ [k], by rw [List.map_append]; exact set_at e2, by simp; omega, fun _ => by simp, T2.sput tl, (f'.trans f2).put (Nat.le_refl _), _, _, rfl⟩
    · rename_i hn
      refine ⟨ks, e2, by omega, fun _ => ?_, T2, f'.trans f2, _, _, rfl⟩
      cases ks with
      | nil => exact absurd rfl hn
      | cons a b => exact Nat.succ_pos _
  · subst eτ
    rw [rng_len] at l0 l1
    simp (maxSteps := 4000000) (disch := decide) only [↓zdg, ↓zbx, ↓FL.then_nx, ↓FL.then_rt, ↓FL.then_bk, ↓FL.then_ct, ↓zbu, ↓zbv, ↓zcz, ↓zew, ↓zdc, ↓zex, ↓zdd, ↓zbw, ↓zev, ↓zeu, ↓zet, ↓zcy, ↓zda, ↓zdb, ↓zde, ↓zey, ↓zes, ↓zbi, ↓zfx, ↓zfy, ↓zci, ↓zcj, ↓zfp, ↓zbh, ↓zfh, ↓zfn, ↓zga, ↓zfl, ↓zdp, ↓zdo, ↓zfm, ↓zff, ↓zfk, ↓zgc, ↓zfd, ↓zgd, ↓zfq, ↓or1, ↓and2, ↓or2, ↓zdr, ↓zfs, ↓zds, ↓zft, ↓zfg, ↓zeg, ↓zcr, ↓zfo, ↓zfj, ↓zgb, ↓zfr, ↓zer, ↓zbk, ↓zge, ↓zfz, ↓zfi, ↓zdm, ↓zfe, ↓zdn, ↓zca, ↓zcb, ↓zfa, ↓zfv, ↓zez, ↓zfw, ↓zfc, ↓zfu, ↓zfb, ↓zdj, ↓zcd, ↓zdk, ↓zbl, ↓zdy, ↓zcf, ↓zdz, ↓zcg, ↓zch, ↓zbz, ↓zcc, ↓zdi, ↓zei, ↓zeh, ↓zdx, ↓zdw, ↓zdu, ↓zdq, ↓zea, ↓zcs, ↓zct, ↓zen, ↓zbg, ↓zcv, ↓zcu, ↓zcx, ↓zce, ↓reduceIte, and_self, ↓zbt, ↓zcq, ↓zbs, ↓zbm, ↓zdl, ↓zdf, ↓zby, ↓zec, ↓zed, ↓zee, ↓zef, ↓zdv, ↓zdt, ↓zem, ↓zek, ↓zel, ↓zej, ↓zcl, ↓zeb, ↓zck, ↓zcn, ↓zco, ↓zcm, ↓zbo, ↓zcp, ↓zbn, ↓zbq, ↓zbr, ↓zbp, ↓zal, ↓zak, ↓zai, ↓zba, ↓zaj, ↓zax, ↓zaw, ↓zau, ↓zbe, ↓zav, ↓zad, ↓zac, ↓zaa, ↓zay, ↓zab, ↓zap, ↓zao, ↓zam, ↓zbb, ↓zan, ↓zat, ↓zas, ↓zaq, ↓zbc, ↓zar, ↓zah, ↓zag, ↓zae, ↓zaz, ↓zaf, Bool.not_true, Bool.not_false, Bool.false_eq_true, zbf, zbd, ↓sl0, ↓sl1, ↓sl2, ↓sl3, ↓sl4, ↓sl5, ↓sl6, ↓sl7, ↓sl8, true_and, and_true, zbj, decide_true, decide_false, List.getElem?_cons_zero, List.getElem?_cons_succ, List.set_cons_zero, List.set_cons_succ]
    exact ⟨h.length, ks, rfl, Nat.ne_of_gt tl, Nat.le_refl _, e0, l1 (by omega), by omega, T', f'⟩
theorem order_e (k : Key) (h : Hd) : fF20 [kD k] h = .ok (ordD k) h := Res.sat_eq (by
  refine runP_v (σ := [some (kD k)]) (by rfl) (by rfl) ?_
  unfold bB20
  cases k with
  | inl i => simp (maxSteps := 4000000) (disch := decide) only [↓zdg, ↓zbx, ↓FL.then_nx, ↓FL.then_rt, ↓FL.then_bk, ↓FL.then_ct, ↓zbu, ↓zbv, ↓zcz, ↓zew, ↓zdc, ↓zex, ↓zdd, ↓zbw, ↓zev, ↓zeu, ↓zet, ↓zcy, ↓zda, ↓zdb, ↓zde, ↓zey, ↓zes, ↓zbi, ↓zfx, ↓zfy, ↓zci, ↓zcj, ↓zfp, ↓zbh, ↓zfh, ↓zfn, ↓zga, ↓zfl, ↓zdp, ↓zdo, ↓zfm, ↓zff, ↓zfk, ↓zgc, ↓zfd, ↓zgd, ↓zfq, ↓or1, ↓and2, ↓or2, ↓zdr, ↓zfs, ↓zds, ↓zft, ↓zfg, ↓zeg, ↓zcr, ↓zfo, ↓zfj, ↓zgb, ↓zfr, ↓zer, ↓zbk, ↓zge, ↓zfz, ↓zfi, ↓zdm, ↓zfe, ↓zdn, ↓zca, ↓zcb, ↓zfa, ↓zfv, ↓zez, ↓zfw, ↓zfc, ↓zfu, ↓zfb, ↓zdj, ↓zcd, ↓zdk, ↓zbl, ↓zdy, ↓zcf, ↓zdz, ↓zcg, ↓zch, ↓zbz, ↓zcc, ↓zdi, ↓zei, ↓zeh, ↓zdx, ↓zdw, ↓zdu, ↓zdq, ↓zea, ↓zcs, ↓zct, ↓zen, ↓zbg, ↓zcv, ↓zcu, ↓zcx, ↓zce, ↓reduceIte, and_self, ↓zbt, ↓zcq, ↓zbs, ↓zbm, ↓zdl, ↓zdf, ↓zby, ↓zec, ↓zed, ↓zee, ↓zef, ↓zdv, ↓zdt, ↓zem, ↓zek, ↓zel, ↓zej, ↓zcl, ↓zeb, ↓zck, ↓zcn, ↓zco, ↓zcm, ↓zbo, ↓zcp, ↓zbn, ↓zbq, ↓zbr, ↓zbp, ↓zal, ↓zak, ↓zai, ↓zba, ↓zaj, ↓zax, ↓zaw, ↓zau, ↓zbe, ↓zav, ↓zad, ↓zac, ↓zaa, ↓zay, ↓zab, ↓zap, ↓zao, ↓zam, ↓zbb, ↓zan, ↓zat, ↓zas, ↓zaq, ↓zbc, ↓zar, ↓zah, ↓zag, ↓zae, ↓zaz, ↓zaf, Bool.not_true, Bool.not_false, Bool.false_eq_true, zbf, zbd, ↓sl0, ↓sl1, ↓sl2, ↓sl3, ↓sl4, ↓sl5, ↓sl6, ↓sl7, ↓sl8, true_and, and_true, zbj, decide_true, decide_false, List.getElem?_cons_zero, List.getElem?_cons_succ, List.set_cons_zero, List.set_cons_succ, kD]; rfl
  | inr x => simp (maxSteps := 4000000) (disch := decide) only [↓zdg, ↓zbx, ↓FL.then_nx, ↓FL.then_rt, ↓FL.then_bk, ↓FL.then_ct, ↓zbu, ↓zbv, ↓zcz, ↓zew, ↓zdc, ↓zex, ↓zdd, ↓zbw, ↓zev, ↓zeu, ↓zet, ↓zcy, ↓zda, ↓zdb, ↓zde, ↓zey, ↓zes, ↓zbi, ↓zfx, ↓zfy, ↓zci, ↓zcj, ↓zfp, ↓zbh, ↓zfh, ↓zfn, ↓zga, ↓zfl, ↓zdp, ↓zdo, ↓zfm, ↓zff, ↓zfk, ↓zgc, ↓zfd, ↓zgd, ↓zfq, ↓or1, ↓and2, ↓or2, ↓zdr, ↓zfs, ↓zds, ↓zft, ↓zfg, ↓zeg, ↓zcr, ↓zfo, ↓zfj, ↓zgb, ↓zfr, ↓zer, ↓zbk, ↓zge, ↓zfz, ↓zfi, ↓zdm, ↓zfe, ↓zdn, ↓zca, ↓zcb, ↓zfa, ↓zfv, ↓zez, ↓zfw, ↓zfc, ↓zfu, ↓zfb, ↓zdj, ↓zcd, ↓zdk, ↓zbl, ↓zdy, ↓zcf, ↓zdz, ↓zcg, ↓zch, ↓zbz, ↓zcc, ↓zdi, ↓zei, ↓zeh, ↓zdx, ↓zdw, ↓zdu, ↓zdq, ↓zea, ↓zcs, ↓zct, ↓zen, ↓zbg, ↓zcv, ↓zcu, ↓zcx, ↓zce, ↓reduceIte, and_self, ↓zbt, ↓zcq, ↓zbs, ↓zbm, ↓zdl, ↓zdf, ↓zby, ↓zec, ↓zed, ↓zee, ↓zef, ↓zdv, ↓zdt, ↓zem, ↓zek, ↓zel, ↓zej, ↓zcl, ↓zeb, ↓zck, ↓zcn, ↓zco, ↓zcm, ↓zbo, ↓zcp, ↓zbn, ↓zbq, ↓zbr, ↓zbp, ↓zal, ↓zak, ↓zai, ↓zba, ↓zaj, ↓zax, ↓zaw, ↓zau, ↓zbe, ↓zav, ↓zad, ↓zac, ↓zaa, ↓zay, ↓zab, ↓zap, ↓zao, ↓zam, ↓zbb, ↓zan, ↓zat, ↓zas, ↓zaq, ↓zbc, ↓zar, ↓zah, ↓zag, ↓zae, ↓zaz, ↓zaf, Bool.not_true, Bool.not_false, Bool.false_eq_true, zbf, zbd, ↓sl0, ↓sl1, ↓sl2, ↓sl3, ↓sl4, ↓sl5, ↓sl6, ↓sl7, ↓sl8, true_and, and_true, zbj, decide_true, decide_false, List.getElem?_cons_zero, List.getElem?_cons_succ, List.set_cons_zero, List.set_cons_succ, kD]; rfl)
def prD (p : Key × Key) : D := .tup [kD p.1, kD p.2]
def srtK (t : List (Key × Key)) : List (Key × Key) := sortA (fun a b => ltK a.1 b.1) t
theorem tab_fst {α : Type} {f : α → D} {t : List (Key × α)} : (tabD f t).map (·.1) = (t.map (·.1)).map kD := by unfold tabD; simp [List.map_map]
theorem entries_v {E : XP} {P : D → Hd → Prop} {n : Nat} {tb : List (Key × Key)} {h : Hd} (e : h[n]? = some (.dct (tabD kD tb))) (nd : (tb.map (·.1)).Nodup) (hl : tb.length ≤ 1000) (q : ∀ h', Kp h h' → P (.tup ((srtK tb).map prD)) h') : vC (E := E) fF22 [.ref n] h P := by
  refine vC.mono (P := fun d h' => d = .tup ((srtK tb).map prD) ∧ Kp h h') ?_ fun d h' ⟨e, k⟩ => e ▸ q h' k
  refine runP_v (σ := [some (.ref n), none]) (by rfl) (by rfl) ?_
  unfold bB22
  simp (maxSteps := 4000000) (disch := decide) only [↓zdg, ↓zbx, ↓FL.then_nx, ↓FL.then_rt, ↓FL.then_bk, ↓FL.then_ct, ↓zbu, ↓zbv, ↓zcz, ↓zew, ↓zdc, ↓zex, ↓zdd, ↓zbw, ↓zev, ↓zeu, ↓zet, ↓zcy, ↓zda, ↓zdb, ↓zde, ↓zey, ↓zes, ↓zbi, ↓zfx, ↓zfy, ↓zci, ↓zcj, ↓zfp, ↓zbh, ↓zfh, ↓zfn, ↓zga, ↓zfl, ↓zdp, ↓zdo, ↓zfm, ↓zff, ↓zfk, ↓zgc, ↓zfd, ↓zgd, ↓zfq, ↓or1, ↓and2, ↓or2, ↓zdr, ↓zfs, ↓zds, ↓zft, ↓zfg, ↓zeg, ↓zcr, ↓zfo, ↓zfj, ↓zgb, ↓zfr, ↓zer, ↓zbk, ↓zge, ↓zfz, ↓zfi, ↓zdm, ↓zfe, ↓zdn, ↓zca, ↓zcb, ↓zfa, ↓zfv, ↓zez, ↓zfw, ↓zfc, ↓zfu, ↓zfb, ↓zdj, ↓zcd, ↓zdk, ↓zbl, ↓zdy, ↓zcf, ↓zdz, ↓zcg, ↓zch, ↓zbz, ↓zcc, ↓zdi, ↓zei, ↓zeh, ↓zdx, ↓zdw, ↓zdu, ↓zdq, ↓zea, ↓zcs, ↓zct, ↓zen, ↓zbg, ↓zcv, ↓zcu, ↓zcx, ↓zce, ↓reduceIte, and_self, ↓zbt, ↓zcq, ↓zbs, ↓zbm, ↓zdl, ↓zdf, ↓zby, ↓zec, ↓zed, ↓zee, ↓zef, ↓zdv, ↓zdt, ↓zem, ↓zek, ↓zel, ↓zej, ↓zcl, ↓zeb, ↓zck, ↓zcn, ↓zco, ↓zcm, ↓zbo, ↓zcp, ↓zbn, ↓zbq, ↓zbr, ↓zbp, ↓zal, ↓zak, ↓zai, ↓zba, ↓zaj, ↓zax, ↓zaw, ↓zau, ↓zbe, ↓zav, ↓zad, ↓zac, ↓zaa, ↓zay, ↓zab, ↓zap, ↓zao, ↓zam, ↓zbb, ↓zan, ↓zat, ↓zas, ↓zaq, ↓zbc, ↓zar, ↓zah, ↓zag, ↓zae, ↓zaz, ↓zaf, Bool.not_true, Bool.not_false, Bool.false_eq_true, zbf, zbd, ↓sl0, ↓sl1, ↓sl2, ↓sl3, ↓sl4, ↓sl5, ↓sl6, ↓sl7, ↓sl8, true_and, and_true, zbj, decide_true, decide_false, List.getElem?_cons_zero, List.getElem?_cons_succ, List.set_cons_zero, List.set_cons_succ, tt22_20, ↓list_dk e]
  rw [tab_fst]
  have km : ((tb.map (·.1)).map kD).map (fun d => match keyS d with | some q => ordD q | none => .non) = tb.map fun p => ordD p.1 := by
    rw [List.map_map, List.map_map]
    refine List.map_congr_left fun p _ => ?_
    show (match keyS (kD p.1) with | some q => ordD q | none => .non) = _
    rw [keyS_kD]
  refine sortR_v (ds := (tb.map (·.1)).map kD) (kf := fun d => match keyS d with | some q => ordD q | none => .non) (by simp only [srcOf, seqOf, app_new]) (by rw [List.length_map, List.length_map]; omega) (fun d hd => ?_) (by rw [km]; exact so_ord) ?_
  · obtain ⟨k, _, rfl⟩ := List.mem_map.mp hd
    show fF20 [kD k] _ = .ok (match keyS (kD k) with | some q => ordD q | none => .non) _
    rw [keyS_kD]
    exact order_e k _
  rw [km]
  have es : sortB (((tb.map (·.1)).map kD).zip (tb.map fun p => ordD p.1)) = (srtK tb).map fun p => kD p.1 := by
    rw [List.map_map]
    exact sortB_map (f := fun p : Key × Key => kD p.1) (kf := fun p : Key × Key => ordD p.1) (lt := fun a b => ltK a.1 b.1) fun a _ b _ => ord_lt a.1 b.1
  rw [es]
  simp (maxSteps := 4000000) (disch := decide) only [↓zdg, ↓zbx, ↓FL.then_nx, ↓FL.then_rt, ↓FL.then_bk, ↓FL.then_ct, ↓zbu, ↓zbv, ↓zcz, ↓zew, ↓zdc, ↓zex, ↓zdd, ↓zbw, ↓zev, ↓zeu, ↓zet, ↓zcy, ↓zda, ↓zdb, ↓zde, ↓zey, ↓zes, ↓zbi, ↓zfx, ↓zfy, ↓zci, ↓zcj, ↓zfp, ↓zbh, ↓zfh, ↓zfn, ↓zga, ↓zfl, ↓zdp, ↓zdo, ↓zfm, ↓zff, ↓zfk, ↓zgc, ↓zfd, ↓zgd, ↓zfq, ↓or1, ↓and2, ↓or2, ↓zdr, ↓zfs, ↓zds, ↓zft, ↓zfg, ↓zeg, ↓zcr, ↓zfo, ↓zfj, ↓zgb, ↓zfr, ↓zer, ↓zbk, ↓zge, ↓zfz, ↓zfi, ↓zdm, ↓zfe, ↓zdn, ↓zca, ↓zcb, ↓zfa, ↓zfv, ↓zez, ↓zfw, ↓zfc, ↓zfu, ↓zfb, ↓zdj, ↓zcd, ↓zdk, ↓zbl, ↓zdy, ↓zcf, ↓zdz, ↓zcg, ↓zch, ↓zbz, ↓zcc, ↓zdi, ↓zei, ↓zeh, ↓zdx, ↓zdw, ↓zdu, ↓zdq, ↓zea, ↓zcs, ↓zct, ↓zen, ↓zbg, ↓zcv, ↓zcu, ↓zcx, ↓zce, ↓reduceIte, and_self, ↓zbt, ↓zcq, ↓zbs, ↓zbm, ↓zdl, ↓zdf, ↓zby, ↓zec, ↓zed, ↓zee, ↓zef, ↓zdv, ↓zdt, ↓zem, ↓zek, ↓zel, ↓zej, ↓zcl, ↓zeb, ↓zck, ↓zcn, ↓zco, ↓zcm, ↓zbo, ↓zcp, ↓zbn, ↓zbq, ↓zbr, ↓zbp, ↓zal, ↓zak, ↓zai, ↓zba, ↓zaj, ↓zax, ↓zaw, ↓zau, ↓zbe, ↓zav, ↓zad, ↓zac, ↓zaa, ↓zay, ↓zab, ↓zap, ↓zao, ↓zam, ↓zbb, ↓zan, ↓zat, ↓zas, ↓zaq, ↓zbc, ↓zar, ↓zah, ↓zag, ↓zae, ↓zaz, ↓zaf, Bool.not_true, Bool.not_false, Bool.false_eq_true, zbf, zbd, ↓sl0, ↓sl1, ↓sl2, ↓sl3, ↓sl4, ↓sl5, ↓sl6, ↓sl7, ↓sl8, true_and, and_true, zbj, decide_true, decide_false, List.getElem?_cons_zero, List.getElem?_cons_succ, List.set_cons_zero, List.set_cons_succ, ↓it_ref app_new]
  refine vCo_no (fun i acc h' => acc = ((srtK tb).take i).map prD ∧ Kp h h' ∧ h' = h ++ [.lst ((tb.map (·.1)).map kD)] ++ [.lst ((srtK tb).map fun p => kD p.1)]) ⟨rfl, Kp.more .app, rfl⟩ (fun i acc h' _ ⟨_, _, eh⟩ p hp => by rw [List.mem_singleton.mp hp, eh]; exact app_new) (fun i acc h' d hd ⟨ea, kp, eh⟩ => ?_) fun acc h' ⟨ea, kp, eh⟩ => ?_
  · rw [List.getElem?_map] at hd
    cases ex : (srtK tb)[i]? with
    | none => rw [ex] at hd; cases hd
    | some p =>
      rw [ex] at hd
      cases hd
      refine ⟨_, rfl, ?_⟩
      have hp : p ∈ tb := sortA_mem.mp (List.mem_of_getElem? ex)
      have g := getA_nodup nd hp
      have g2 : dget (tabD kD tb) (kD p.1) = some (kD p.2) := by rw [dget_tab, g]; rfl
      simp (maxSteps := 4000000) (disch := decide) only [↓zdg, ↓zbx, ↓FL.then_nx, ↓FL.then_rt, ↓FL.then_bk, ↓FL.then_ct, ↓zbu, ↓zbv, ↓zcz, ↓zew, ↓zdc, ↓zex, ↓zdd, ↓zbw, ↓zev, ↓zeu, ↓zet, ↓zcy, ↓zda, ↓zdb, ↓zde, ↓zey, ↓zes, ↓zbi, ↓zfx, ↓zfy, ↓zci, ↓zcj, ↓zfp, ↓zbh, ↓zfh, ↓zfn, ↓zga, ↓zfl, ↓zdp, ↓zdo, ↓zfm, ↓zff, ↓zfk, ↓zgc, ↓zfd, ↓zgd, ↓zfq, ↓or1, ↓and2, ↓or2, ↓zdr, ↓zfs, ↓zds, ↓zft, ↓zfg, ↓zeg, ↓zcr, ↓zfo, ↓zfj, ↓zgb, ↓zfr, ↓zer, ↓zbk, ↓zge, ↓zfz, ↓zfi, ↓zdm, ↓zfe, ↓zdn, ↓zca, ↓zcb, ↓zfa, ↓zfv, ↓zez, ↓zfw, ↓zfc, ↓zfu, ↓zfb, ↓zdj, ↓zcd, ↓zdk, ↓zbl, ↓zdy, ↓zcf, ↓zdz, ↓zcg, ↓zch, ↓zbz, ↓zcc, ↓zdi, ↓zei, ↓zeh, ↓zdx, ↓zdw, ↓zdu, ↓zdq, ↓zea, ↓zcs, ↓zct, ↓zen, ↓zbg, ↓zcv, ↓zcu, ↓zcx, ↓zce, ↓reduceIte, and_self, ↓zbt, ↓zcq, ↓zbs, ↓zbm, ↓zdl, ↓zdf, ↓zby, ↓zec, ↓zed, ↓zee, ↓zef, ↓zdv, ↓zdt, ↓zem, ↓zek, ↓zel, ↓zej, ↓zcl, ↓zeb, ↓zck, ↓zcn, ↓zco, ↓zcm, ↓zbo, ↓zcp, ↓zbn, ↓zbq, ↓zbr, ↓zbp, ↓zal, ↓zak, ↓zai, ↓zba, ↓zaj, ↓zax, ↓zaw, ↓zau, ↓zbe, ↓zav, ↓zad, ↓zac, ↓zaa, ↓zay, ↓zab, ↓zap, ↓zao, ↓zam, ↓zbb, ↓zan, ↓zat, ↓zas, ↓zaq, ↓zbc, ↓zar, ↓zah, ↓zag, ↓zae, ↓zaz, ↓zaf, Bool.not_true, Bool.not_false, Bool.false_eq_true, zbf, zbd, ↓sl0, ↓sl1, ↓sl2, ↓sl3, ↓sl4, ↓sl5, ↓sl6, ↓sl7, ↓sl8, true_and, and_true, zbj, decide_true, decide_false, List.getElem?_cons_zero, List.getElem?_cons_succ, List.set_cons_zero, List.set_cons_succ, wipeD, ↓ix_dk (kp.keep _ _ e) (keyS_kD p.1) g2]
      refine ⟨?_, kp, eh⟩
      rw [ea, take_snoc ex, List.map_append]; rfl
  · rw [List.length_map, List.take_length] at ea
    subst ea
    have hs : (srtK tb).length ≤ 1000 := by unfold srtK; rw [sortA_len]; exact hl
    refine ⟨sz (by rw [List.length_map]; omega), (tuple_v (seqOf_ref app_new)).mpr ?_⟩
    exact ⟨rfl, kp.more⟩
def qiD (p : Int × Key) : D := .tup [.int p.1, kD p.2]
def srtQ (t : List (Int × Key)) : List (Int × Key) := sortA (fun a b => decide (a.1 < b.1)) t
def fstD : D → D
  | .tup (k :: _) => k
  | _ => .non
theorem map_fst {l : List (Int × Key)} : (l.map qiD).map fstD = l.map fun p => D.int p.1 := by rw [List.map_map]; rfl
theorem priority_e (p : Int × Key) (h : Hd) : fF23 [qiD p] h = .ok (.int p.1) h := Res.sat_eq (by
  refine runP_v (σ := [some (qiD p)]) (by rfl) (by rfl) ?_
  unfold bB23
  simp (maxSteps := 4000000) (disch := decide) only [↓zdg, ↓zbx, ↓FL.then_nx, ↓FL.then_rt, ↓FL.then_bk, ↓FL.then_ct, ↓zbu, ↓zbv, ↓zcz, ↓zew, ↓zdc, ↓zex, ↓zdd, ↓zbw, ↓zev, ↓zeu, ↓zet, ↓zcy, ↓zda, ↓zdb, ↓zde, ↓zey, ↓zes, ↓zbi, ↓zfx, ↓zfy, ↓zci, ↓zcj, ↓zfp, ↓zbh, ↓zfh, ↓zfn, ↓zga, ↓zfl, ↓zdp, ↓zdo, ↓zfm, ↓zff, ↓zfk, ↓zgc, ↓zfd, ↓zgd, ↓zfq, ↓or1, ↓and2, ↓or2, ↓zdr, ↓zfs, ↓zds, ↓zft, ↓zfg, ↓zeg, ↓zcr, ↓zfo, ↓zfj, ↓zgb, ↓zfr, ↓zer, ↓zbk, ↓zge, ↓zfz, ↓zfi, ↓zdm, ↓zfe, ↓zdn, ↓zca, ↓zcb, ↓zfa, ↓zfv, ↓zez, ↓zfw, ↓zfc, ↓zfu, ↓zfb, ↓zdj, ↓zcd, ↓zdk, ↓zbl, ↓zdy, ↓zcf, ↓zdz, ↓zcg, ↓zch, ↓zbz, ↓zcc, ↓zdi, ↓zei, ↓zeh, ↓zdx, ↓zdw, ↓zdu, ↓zdq, ↓zea, ↓zcs, ↓zct, ↓zen, ↓zbg, ↓zcv, ↓zcu, ↓zcx, ↓zce, ↓reduceIte, and_self, ↓zbt, ↓zcq, ↓zbs, ↓zbm, ↓zdl, ↓zdf, ↓zby, ↓zec, ↓zed, ↓zee, ↓zef, ↓zdv, ↓zdt, ↓zem, ↓zek, ↓zel, ↓zej, ↓zcl, ↓zeb, ↓zck, ↓zcn, ↓zco, ↓zcm, ↓zbo, ↓zcp, ↓zbn, ↓zbq, ↓zbr, ↓zbp, ↓zal, ↓zak, ↓zai, ↓zba, ↓zaj, ↓zax, ↓zaw, ↓zau, ↓zbe, ↓zav, ↓zad, ↓zac, ↓zaa, ↓zay, ↓zab, ↓zap, ↓zao, ↓zam, ↓zbb, ↓zan, ↓zat, ↓zas, ↓zaq, ↓zbc, ↓zar, ↓zah, ↓zag, ↓zae, ↓zaz, ↓zaf, Bool.not_true, Bool.not_false, Bool.false_eq_true, zbf, zbd, ↓sl0, ↓sl1, ↓sl2, ↓sl3, ↓sl4, ↓sl5, ↓sl6, ↓sl7, ↓sl8, true_and, and_true, zbj, decide_true, decide_false, List.getElem?_cons_zero, List.getElem?_cons_succ, List.set_cons_zero, List.set_cons_succ, qiD])
theorem drawn_items_v {E : XP} {P : D → Hd → Prop} {t : Nat} {m : Int} {h : Hd} (T : Tape t h) (m0 : 0 ≤ m) (m1 : m ≤ 1000) (q : ∀ n (is : List (Int × Key)) h', n ≠ t → h.length ≤ n → h'[n]? = some (.lst (is.map qiD)) → (is.length : Int) ≤ m → Tape t h' → Fr t h h' → P (.ref n) h') : vC (E := E) fF24 [.ref t, .int m] h P := by
  refine vC.mono (P := fun d h' => ∃ n is, d = .ref n ∧ n ≠ t ∧ h.length ≤ n ∧ h'[n]? = some (.lst (is.map qiD)) ∧ (is.length : Int) ≤ m ∧ Tape t h' ∧ Fr t h h') ?_ fun d h' ⟨n, ks, e, r1, r2, r3, r4, r6, r7⟩ => e ▸ q n ks h' r1 r2 r3 r4 r6 r7
  have tl := T.lt
  refine runP_v (σ := [some (.ref t), some (.int m), none, none, none]) (by rfl) (by rfl) ?_
  unfold bB24
  simp (maxSteps := 4000000) (disch := decide) only [↓zdg, ↓zbx, ↓FL.then_nx, ↓FL.then_rt, ↓FL.then_bk, ↓FL.then_ct, ↓zbu, ↓zbv, ↓zcz, ↓zew, ↓zdc, ↓zex, ↓zdd, ↓zbw, ↓zev, ↓zeu, ↓zet, ↓zcy, ↓zda, ↓zdb, ↓zde, ↓zey, ↓zes, ↓zbi, ↓zfx, ↓zfy, ↓zci, ↓zcj, ↓zfp, ↓zbh, ↓zfh, ↓zfn, ↓zga, ↓zfl, ↓zdp, ↓zdo, ↓zfm, ↓zff, ↓zfk, ↓zgc, ↓zfd, ↓zgd, ↓zfq, ↓or1, ↓and2, ↓or2, ↓zdr, ↓zfs, ↓zds, ↓zft, ↓zfg, ↓zeg, ↓zcr, ↓zfo, ↓zfj, ↓zgb, ↓zfr, ↓zer, ↓zbk, ↓zge, ↓zfz, ↓zfi, ↓zdm, ↓zfe, ↓zdn, ↓zca, ↓zcb, ↓zfa, ↓zfv, ↓zez, ↓zfw, ↓zfc, ↓zfu, ↓zfb, ↓zdj, ↓zcd, ↓zdk, ↓zbl, ↓zdy, ↓zcf, ↓zdz, ↓zcg, ↓zch, ↓zbz, ↓zcc, ↓zdi, ↓zei, ↓zeh, ↓zdx, ↓zdw, ↓zdu, ↓zdq, ↓zea, ↓zcs, ↓zct, ↓zen, ↓zbg, ↓zcv, ↓zcu, ↓zcx, ↓zce, ↓reduceIte, and_self, ↓zbt, ↓zcq, ↓zbs, ↓zbm, ↓zdl, ↓zdf, ↓zby, ↓zec, ↓zed, ↓zee, ↓zef, ↓zdv, ↓zdt, ↓zem, ↓zek, ↓zel, ↓zej, ↓zcl, ↓zeb, ↓zck, ↓zcn, ↓zco, ↓zcm, ↓zbo, ↓zcp, ↓zbn, ↓zbq, ↓zbr, ↓zbp, ↓zal, ↓zak, ↓zai, ↓zba, ↓zaj, ↓zax, ↓zaw, ↓zau, ↓zbe, ↓zav, ↓zad, ↓zac, ↓zaa, ↓zay, ↓zab, ↓zap, ↓zao, ↓zam, ↓zbb, ↓zan, ↓zat, ↓zas, ↓zaq, ↓zbc, ↓zar, ↓zah, ↓zag, ↓zae, ↓zaz, ↓zaf, Bool.not_true, Bool.not_false, Bool.false_eq_true, zbf, zbd, ↓sl0, ↓sl1, ↓sl2, ↓sl3, ↓sl4, ↓sl5, ↓sl6, ↓sl7, ↓sl8, true_and, and_true, zbj, decide_true, decide_false, List.getElem?_cons_zero, List.getElem?_cons_succ, List.set_cons_zero, List.set_cons_succ, tt24_14, tt24_16]
  refine draw_v T.app (by omega) (by omega) fun v h1 v0 v1 T1 f1 => ?_
  refine rngD_i (by omega) (by omega) ?_
  refine for_sat (fun i τ h' => ∃ is : List (Int × Key), h'[h.length]? = some (.lst (is.map qiD)) ∧ is.length ≤ i ∧ Tape t h' ∧ Fr t h h' ∧ ∃ z3 z4, τ = [some (.ref t), some (.int m), some (.ref h.length), z3, z4])
    ⟨[], f1.keep _ _ (Nat.ne_of_gt tl) app_new, Nat.le_refl _, T1, (Fr.app).trans f1, _, _, rfl⟩ (fun _ _ _ _ _ _ z => nomatch z) (fun i τ h' d hd ⟨is, e0, l0, T', f', z2, z3, eτ⟩ => ?_) fun τ h' ⟨is, e0, l0, T', f', z2, z3, eτ⟩ => ?_
  · subst eτ
    have hi : i < v.toNat := by have := (List.getElem?_eq_some_iff.mp hd).1; rwa [rng_len] at this
    refine ⟨_, rfl, ?_⟩
    simp (maxSteps := 4000000) (disch := decide) only [↓zdg, ↓zbx, ↓FL.then_nx, ↓FL.then_rt, ↓FL.then_bk, ↓FL.then_ct, ↓zbu, ↓zbv, ↓zcz, ↓zew, ↓zdc, ↓zex, ↓zdd, ↓zbw, ↓zev, ↓zeu, ↓zet, ↓zcy, ↓zda, ↓zdb, ↓zde, ↓zey, ↓zes, ↓zbi, ↓zfx, ↓zfy, ↓zci, ↓zcj, ↓zfp, ↓zbh, ↓zfh, ↓zfn, ↓zga, ↓zfl, ↓zdp, ↓zdo, ↓zfm, ↓zff, ↓zfk, ↓zgc, ↓zfd, ↓zgd, ↓zfq, ↓or1, ↓and2, ↓or2, ↓zdr, ↓zfs, ↓zds, ↓zft, ↓zfg, ↓zeg, ↓zcr, ↓zfo, ↓zfj, ↓zgb, ↓zfr, ↓zer, ↓zbk, ↓zge, ↓zfz, ↓zfi, ↓zdm, ↓zfe, ↓zdn, ↓zca, ↓zcb, ↓zfa, ↓zfv, ↓zez, ↓zfw, ↓zfc, ↓zfu, ↓zfb, ↓zdj, ↓zcd, ↓zdk, ↓zbl, ↓zdy, ↓zcf, ↓zdz, ↓zcg, ↓zch, ↓zbz, ↓zcc, ↓zdi, ↓zei, ↓zeh, ↓zdx, ↓zdw, ↓zdu, ↓zdq, ↓zea, ↓zcs, ↓zct, ↓zen, ↓zbg, ↓zcv, ↓zcu, ↓zcx, ↓zce, ↓reduceIte, and_self, ↓zbt, ↓zcq, ↓zbs, ↓zbm, ↓zdl, ↓zdf, ↓zby, ↓zec, ↓zed, ↓zee, ↓zef, ↓zdv, ↓zdt, ↓zem, ↓zek, ↓zel, ↓zej, ↓zcl, ↓zeb, ↓zck, ↓zcn, ↓zco, ↓zcm, ↓zbo, ↓zcp, ↓zbn, ↓zbq, ↓zbr, ↓zbp, ↓zal, ↓zak, ↓zai, ↓zba, ↓zaj, ↓zax, ↓zaw, ↓zau, ↓zbe, ↓zav, ↓zad, ↓zac, ↓zaa, ↓zay, ↓zab, ↓zap, ↓zao, ↓zam, ↓zbb, ↓zan, ↓zat, ↓zas, ↓zaq, ↓zbc, ↓zar, ↓zah, ↓zag, ↓zae, ↓zaz, ↓zaf, Bool.not_true, Bool.not_false, Bool.false_eq_true, zbf, zbd, ↓sl0, ↓sl1, ↓sl2, ↓sl3, ↓sl4, ↓sl5, ↓sl6, ↓sl7, ↓sl8, true_and, and_true, zbj, decide_true, decide_false, List.getElem?_cons_zero, List.getElem?_cons_succ, List.set_cons_zero, List.set_cons_succ, tt24_14, tt24_16]
    refine draw_v T'.app (by decide) (by decide) fun w h2 w0 w1 T2 f2 => ?_
    refine ix_lit (Fr.new T' f2) w0 w1 fun k hk => ?_
    obtain ⟨k, rfl⟩ : ∃ n : Int, k = .int n := by
      simp only [List.mem_cons, List.not_mem_nil, or_false] at hk
      rcases hk with rfl | rfl | rfl | rfl | rfl | rfl | rfl <;> exact ⟨_, rfl⟩
    have e2 := f2.keep _ _ (Nat.ne_of_gt tl) (app_at (k := [.lst [.int 0, .int 1, .int 1, .int 2, .int (-1), .int (10 ^ Int.toNat 15), .int (-(10 ^ Int.toNat 15))]]) e0)
    simp (maxSteps := 4000000) (disch := decide) only [↓zdg, ↓zbx, ↓FL.then_nx, ↓FL.then_rt, ↓FL.then_bk, ↓FL.then_ct, ↓zbu, ↓zbv, ↓zcz, ↓zew, ↓zdc, ↓zex, ↓zdd, ↓zbw, ↓zev, ↓zeu, ↓zet, ↓zcy, ↓zda, ↓zdb, ↓zde, ↓zey, ↓zes, ↓zbi, ↓zfx, ↓zfy, ↓zci, ↓zcj, ↓zfp, ↓zbh, ↓zfh, ↓zfn, ↓zga, ↓zfl, ↓zdp, ↓zdo, ↓zfm, ↓zff, ↓zfk, ↓zgc, ↓zfd, ↓zgd, ↓zfq, ↓or1, ↓and2, ↓or2, ↓zdr, ↓zfs, ↓zds, ↓zft, ↓zfg, ↓zeg, ↓zcr, ↓zfo, ↓zfj, ↓zgb, ↓zfr, ↓zer, ↓zbk, ↓zge, ↓zfz, ↓zfi, ↓zdm, ↓zfe, ↓zdn, ↓zca, ↓zcb, ↓zfa, ↓zfv, ↓zez, ↓zfw, ↓zfc, ↓zfu, ↓zfb, ↓zdj, ↓zcd, ↓zdk, ↓zbl, ↓zdy, ↓zcf, ↓zdz, ↓zcg, ↓zch, ↓zbz, ↓zcc, ↓zdi, ↓zei, ↓zeh, ↓zdx, ↓zdw, ↓zdu, ↓zdq, ↓zea, ↓zcs, ↓zct, ↓zen, ↓zbg, ↓zcv, ↓zcu, ↓zcx, ↓zce, ↓reduceIte, and_self, ↓zbt, ↓zcq, ↓zbs, ↓zbm, ↓zdl, ↓zdf, ↓zby, ↓zec, ↓zed, ↓zee, ↓zef, ↓zdv, ↓zdt, ↓zem, ↓zek, ↓zel, ↓zej, ↓zcl, ↓zeb, ↓zck, ↓zcn, ↓zco, ↓zcm, ↓zbo, ↓zcp, ↓zbn, ↓zbq, ↓zbr, ↓zbp, ↓zal, ↓zak, ↓zai, ↓zba, ↓zaj, ↓zax, ↓zaw, ↓zau, ↓zbe, ↓zav, ↓zad, ↓zac, ↓zaa, ↓zay, ↓zab, ↓zap, ↓zao, ↓zam, ↓zbb, ↓zan, ↓zat, ↓zas, ↓zaq, ↓zbc, ↓zar, ↓zah, ↓zag, ↓zae, ↓zaz, ↓zaf, Bool.not_true, Bool.not_false, Bool.false_eq_true, zbf, zbd, ↓sl0, ↓sl1, ↓sl2, ↓sl3, ↓sl4, ↓sl5, ↓sl6, ↓sl7, ↓sl8, true_and, and_true, zbj, decide_true, decide_false, List.getElem?_cons_zero, List.getElem?_cons_succ, List.set_cons_zero, List.set_cons_succ, isLst_ref e2, tt24_14, tt24_16]
    refine scalar_v T2 fun x h3 sx T3 f3 => ?_
    obtain ⟨y, rfl⟩ := sx.key
    have e3 := f3.keep _ _ (Nat.ne_of_gt tl) e2
    refine (app_v e3 (by rw [List.length_map]; omega) ?_).2
    refine ⟨is ++ [(k, y)], by rw [List.map_append]; exact set_at e3, by simp; omega, T3.sput tl, (((f'.trans .app).trans f2).trans f3).put (Nat.le_refl _), _, _, rfl⟩
  · subst eτ
    rw [rng_len] at l0
    simp (maxSteps := 4000000) (disch := decide) only [↓zdg, ↓zbx, ↓FL.then_nx, ↓FL.then_rt, ↓FL.then_bk, ↓FL.then_ct, ↓zbu, ↓zbv, ↓zcz, ↓zew, ↓zdc, ↓zex, ↓zdd, ↓zbw, ↓zev, ↓zeu, ↓zet, ↓zcy, ↓zda, ↓zdb, ↓zde, ↓zey, ↓zes, ↓zbi, ↓zfx, ↓zfy, ↓zci, ↓zcj, ↓zfp, ↓zbh, ↓zfh, ↓zfn, ↓zga, ↓zfl, ↓zdp, ↓zdo, ↓zfm, ↓zff, ↓zfk, ↓zgc, ↓zfd, ↓zgd, ↓zfq, ↓or1, ↓and2, ↓or2, ↓zdr, ↓zfs, ↓zds, ↓zft, ↓zfg, ↓zeg, ↓zcr, ↓zfo, ↓zfj, ↓zgb, ↓zfr, ↓zer, ↓zbk, ↓zge, ↓zfz, ↓zfi, ↓zdm, ↓zfe, ↓zdn, ↓zca, ↓zcb, ↓zfa, ↓zfv, ↓zez, ↓zfw, ↓zfc, ↓zfu, ↓zfb, ↓zdj, ↓zcd, ↓zdk, ↓zbl, ↓zdy, ↓zcf, ↓zdz, ↓zcg, ↓zch, ↓zbz, ↓zcc, ↓zdi, ↓zei, ↓zeh, ↓zdx, ↓zdw, ↓zdu, ↓zdq, ↓zea, ↓zcs, ↓zct, ↓zen, ↓zbg, ↓zcv, ↓zcu, ↓zcx, ↓zce, ↓reduceIte, and_self, ↓zbt, ↓zcq, ↓zbs, ↓zbm, ↓zdl, ↓zdf, ↓zby, ↓zec, ↓zed, ↓zee, ↓zef, ↓zdv, ↓zdt, ↓zem, ↓zek, ↓zel, ↓zej, ↓zcl, ↓zeb, ↓zck, ↓zcn, ↓zco, ↓zcm, ↓zbo, ↓zcp, ↓zbn, ↓zbq, ↓zbr, ↓zbp, ↓zal, ↓zak, ↓zai, ↓zba, ↓zaj, ↓zax, ↓zaw, ↓zau, ↓zbe, ↓zav, ↓zad, ↓zac, ↓zaa, ↓zay, ↓zab, ↓zap, ↓zao, ↓zam, ↓zbb, ↓zan, ↓zat, ↓zas, ↓zaq, ↓zbc, ↓zar, ↓zah, ↓zag, ↓zae, ↓zaz, ↓zaf, Bool.not_true, Bool.not_false, Bool.false_eq_true, zbf, zbd, ↓sl0, ↓sl1, ↓sl2, ↓sl3, ↓sl4, ↓sl5, ↓sl6, ↓sl7, ↓sl8, true_and, and_true, zbj, decide_true, decide_false, List.getElem?_cons_zero, List.getElem?_cons_succ, List.set_cons_zero, List.set_cons_succ]
    exact ⟨h.length, is, rfl, Nat.ne_of_gt tl, Nat.le_refl _, e0, by omega, T', f'⟩
end DL

set_option Elab.async false
set_option linter.all false
set_option maxRecDepth 100000
set_option maxHeartbeats 4000000
namespace DL
open PySem PySem.Spec PyProof.Rows L2
theorem drawn_intervals_v {E : XP} {P : D → Hd → Prop} {t : Nat} {lw m : Int} {h : Hd} (T : Tape t h) (m0 : 0 ≤ m) (m1 : m ≤ 1000) (q : ∀ n (is : List (Int × Int)) h', n ≠ t → h.length ≤ n → h'[n]? = some (.lst (is.map ipD)) → (is.length : Int) ≤ m → (∀ p ∈ is, lw ≤ p.1 ∧ p.1 < p.2 ∧ p.2 ≤ lw + 60) → Tape t h' → Fr t h h' → P (.ref n) h') : vC (E := E) fF25 [.ref t, .int lw, .int m] h P := by
  refine vC.mono (P := fun d h' => ∃ n is, d = .ref n ∧ n ≠ t ∧ h.length ≤ n ∧ h'[n]? = some (.lst (is.map ipD)) ∧ (is.length : Int) ≤ m ∧ (∀ p ∈ is, lw ≤ p.1 ∧ p.1 < p.2 ∧ p.2 ≤ lw + 60) ∧ Tape t h' ∧ Fr t h h') ?_ fun d h' ⟨n, ks, e, r1, r2, r3, r4, r5, r6, r7⟩ => e ▸ q n ks h' r1 r2 r3 r4 r5 r6 r7
  have tl := T.lt
  refine runP_v (σ := [some (.ref t), some (.int lw), some (.int m), none, none, none]) (by rfl) (by rfl) ?_
  unfold bB25
  simp (maxSteps := 4000000) (disch := decide) only [↓zdg, ↓zbx, ↓FL.then_nx, ↓FL.then_rt, ↓FL.then_bk, ↓FL.then_ct, ↓zbu, ↓zbv, ↓zcz, ↓zew, ↓zdc, ↓zex, ↓zdd, ↓zbw, ↓zev, ↓zeu, ↓zet, ↓zcy, ↓zda, ↓zdb, ↓zde, ↓zey, ↓zes, ↓zbi, ↓zfx, ↓zfy, ↓zci, ↓zcj, ↓zfp, ↓zbh, ↓zfh, ↓zfn, ↓zga, ↓zfl, ↓zdp, ↓zdo, ↓zfm, ↓zff, ↓zfk, ↓zgc, ↓zfd, ↓zgd, ↓zfq, ↓or1, ↓and2, ↓or2, ↓zdr, ↓zfs, ↓zds, ↓zft, ↓zfg, ↓zeg, ↓zcr, ↓zfo, ↓zfj, ↓zgb, ↓zfr, ↓zer, ↓zbk, ↓zge, ↓zfz, ↓zfi, ↓zdm, ↓zfe, ↓zdn, ↓zca, ↓zcb, ↓zfa, ↓zfv, ↓zez, ↓zfw, ↓zfc, ↓zfu, ↓zfb, ↓zdj, ↓zcd, ↓zdk, ↓zbl, ↓zdy, ↓zcf, ↓zdz, ↓zcg, ↓zch, ↓zbz, ↓zcc, ↓zdi, ↓zei, ↓zeh, ↓zdx, ↓zdw, ↓zdu, ↓zdq, ↓zea, ↓zcs, ↓zct, ↓zen, ↓zbg, ↓zcv, ↓zcu, ↓zcx, ↓zce, ↓reduceIte, and_self, ↓zbt, ↓zcq, ↓zbs, ↓zbm, ↓zdl, ↓zdf, ↓zby, ↓zec, ↓zed, ↓zee, ↓zef, ↓zdv, ↓zdt, ↓zem, ↓zek, ↓zel, ↓zej, ↓zcl, ↓zeb, ↓zck, ↓zcn, ↓zco, ↓zcm, ↓zbo, ↓zcp, ↓zbn, ↓zbq, ↓zbr, ↓zbp, ↓zal, ↓zak, ↓zai, ↓zba, ↓zaj, ↓zax, ↓zaw, ↓zau, ↓zbe, ↓zav, ↓zad, ↓zac, ↓zaa, ↓zay, ↓zab, ↓zap, ↓zao, ↓zam, ↓zbb, ↓zan, ↓zat, ↓zas, ↓zaq, ↓zbc, ↓zar, ↓zah, ↓zag, ↓zae, ↓zaz, ↓zaf, Bool.not_true, Bool.not_false, Bool.false_eq_true, zbf, zbd, ↓sl0, ↓sl1, ↓sl2, ↓sl3, ↓sl4, ↓sl5, ↓sl6, ↓sl7, ↓sl8, true_and, and_true, zbj, decide_true, decide_false, List.getElem?_cons_zero, List.getElem?_cons_succ, List.set_cons_zero, List.set_cons_succ, tt25_14]
  refine draw_v T.app (by omega) (by omega) fun v h1 v0 v1 T1 f1 => ?_
  refine rngD_i (by omega) (by omega) ?_
  refine for_sat (fun i τ h' => ∃ is : List (Int × Int), h'[h.length]? = some (.lst (is.map ipD)) ∧ is.length ≤ i ∧ (∀ p ∈ is, lw ≤ p.1 ∧ p.1 < p.2 ∧ p.2 ≤ lw + 60) ∧ Tape t h' ∧ Fr t h h' ∧ ∃ z4 z5, τ = [some (.ref t), some (.int lw), some (.int m), some (.ref h.length), z4, z5])
    ⟨[], f1.keep _ _ (Nat.ne_of_gt tl) app_new, Nat.le_refl _, (fun _ z => nomatch z), T1, (Fr.app).trans f1, _, _, rfl⟩ (fun _ _ _ _ _ _ z => nomatch z) (fun i τ h' d hd ⟨is, e0, l0, a0, T', f', z2, z3, eτ⟩ => ?_) fun τ h' ⟨is, e0, l0, a0, T', f', z2, z3, eτ⟩ => ?_
  · subst eτ
    have hi : i < v.toNat := by have := (List.getElem?_eq_some_iff.mp hd).1; rwa [rng_len] at this
    refine ⟨_, rfl, ?_⟩
    simp (maxSteps := 4000000) (disch := decide) only [↓zdg, ↓zbx, ↓FL.then_nx, ↓FL.then_rt, ↓FL.then_bk, ↓FL.then_ct, ↓zbu, ↓zbv, ↓zcz, ↓zew, ↓zdc, ↓zex, ↓zdd, ↓zbw, ↓zev, ↓zeu, ↓zet, ↓zcy, ↓zda, ↓zdb, ↓zde, ↓zey, ↓zes, ↓zbi, ↓zfx, ↓zfy, ↓zci, ↓zcj, ↓zfp, ↓zbh, ↓zfh, ↓zfn, ↓zga, ↓zfl, ↓zdp, ↓zdo, ↓zfm, ↓zff, ↓zfk, ↓zgc, ↓zfd, ↓zgd, ↓zfq, ↓or1, ↓and2, ↓or2, ↓zdr, ↓zfs, ↓zds, ↓zft, ↓zfg, ↓zeg, ↓zcr, ↓zfo, ↓zfj, ↓zgb, ↓zfr, ↓zer, ↓zbk, ↓zge, ↓zfz, ↓zfi, ↓zdm, ↓zfe, ↓zdn, ↓zca, ↓zcb, ↓zfa, ↓zfv, ↓zez, ↓zfw, ↓zfc, ↓zfu, ↓zfb, ↓zdj, ↓zcd, ↓zdk, ↓zbl, ↓zdy, ↓zcf, ↓zdz, ↓zcg, ↓zch, ↓zbz, ↓zcc, ↓zdi, ↓zei, ↓zeh, ↓zdx, ↓zdw, ↓zdu, ↓zdq, ↓zea, ↓zcs, ↓zct, ↓zen, ↓zbg, ↓zcv, ↓zcu, ↓zcx, ↓zce, ↓reduceIte, and_self, ↓zbt, ↓zcq, ↓zbs, ↓zbm, ↓zdl, ↓zdf, ↓zby, ↓zec, ↓zed, ↓zee, ↓zef, ↓zdv, ↓zdt, ↓zem, ↓zek, ↓zel, ↓zej, ↓zcl, ↓zeb, ↓zck, ↓zcn, ↓zco, ↓zcm, ↓zbo, ↓zcp, ↓zbn, ↓zbq, ↓zbr, ↓zbp, ↓zal, ↓zak, ↓zai, ↓zba, ↓zaj, ↓zax, ↓zaw, ↓zau, ↓zbe, ↓zav, ↓zad, ↓zac, ↓zaa, ↓zay, ↓zab, ↓zap, ↓zao, ↓zam, ↓zbb, ↓zan, ↓zat, ↓zas, ↓zaq, ↓zbc, ↓zar, ↓zah, ↓zag, ↓zae, ↓zaz, ↓zaf, Bool.not_true, Bool.not_false, Bool.false_eq_true, zbf, zbd, ↓sl0, ↓sl1, ↓sl2, ↓sl3, ↓sl4, ↓sl5, ↓sl6, ↓sl7, ↓sl8, true_and, and_true, zbj, decide_true, decide_false, List.getElem?_cons_zero, List.getElem?_cons_succ, List.set_cons_zero, List.set_cons_succ, tt25_14]
    refine draw_v T' (by decide) (by decide) fun w h2 w0 w1 T2 f2 => ?_
    have e2 := f2.keep _ _ (Nat.ne_of_gt tl) e0
    simp (maxSteps := 4000000) (disch := decide) only [↓zdg, ↓zbx, ↓FL.then_nx, ↓FL.then_rt, ↓FL.then_bk, ↓FL.then_ct, ↓zbu, ↓zbv, ↓zcz, ↓zew, ↓zdc, ↓zex, ↓zdd, ↓zbw, ↓zev, ↓zeu, ↓zet, ↓zcy, ↓zda, ↓zdb, ↓zde, ↓zey, ↓zes, ↓zbi, ↓zfx, ↓zfy, ↓zci, ↓zcj, ↓zfp, ↓zbh, ↓zfh, ↓zfn, ↓zga, ↓zfl, ↓zdp, ↓zdo, ↓zfm, ↓zff, ↓zfk, ↓zgc, ↓zfd, ↓zgd, ↓zfq, ↓or1, ↓and2, ↓or2, ↓zdr, ↓zfs, ↓zds, ↓zft, ↓zfg, ↓zeg, ↓zcr, ↓zfo, ↓zfj, ↓zgb, ↓zfr, ↓zer, ↓zbk, ↓zge, ↓zfz, ↓zfi, ↓zdm, ↓zfe, ↓zdn, ↓zca, ↓zcb, ↓zfa, ↓zfv, ↓zez, ↓zfw, ↓zfc, ↓zfu, ↓zfb, ↓zdj, ↓zcd, ↓zdk, ↓zbl, ↓zdy, ↓zcf, ↓zdz, ↓zcg, ↓zch, ↓zbz, ↓zcc, ↓zdi, ↓zei, ↓zeh, ↓zdx, ↓zdw, ↓zdu, ↓zdq, ↓zea, ↓zcs, ↓zct, ↓zen, ↓zbg, ↓zcv, ↓zcu, ↓zcx, ↓zce, ↓reduceIte, and_self, ↓zbt, ↓zcq, ↓zbs, ↓zbm, ↓zdl, ↓zdf, ↓zby, ↓zec, ↓zed, ↓zee, ↓zef, ↓zdv, ↓zdt, ↓zem, ↓zek, ↓zel, ↓zej, ↓zcl, ↓zeb, ↓zck, ↓zcn, ↓zco, ↓zcm, ↓zbo, ↓zcp, ↓zbn, ↓zbq, ↓zbr, ↓zbp, ↓zal, ↓zak, ↓zai, ↓zba, ↓zaj, ↓zax, ↓zaw, ↓zau, ↓zbe, ↓zav, ↓zad, ↓zac, ↓zaa, ↓zay, ↓zab, ↓zap, ↓zao, ↓zam, ↓zbb, ↓zan, ↓zat, ↓zas, ↓zaq, ↓zbc, ↓zar, ↓zah, ↓zag, ↓zae, ↓zaz, ↓zaf, Bool.not_true, Bool.not_false, Bool.false_eq_true, zbf, zbd, ↓sl0, ↓sl1, ↓sl2, ↓sl3, ↓sl4, ↓sl5, ↓sl6, ↓sl7, ↓sl8, true_and, and_true, zbj, decide_true, decide_false, List.getElem?_cons_zero, List.getElem?_cons_succ, List.set_cons_zero, List.set_cons_succ, isLst_ref e2, tt25_14]
    refine draw_v T2.app (by decide) (by decide) fun u h3 u0 u1 T3 f3 => ?_
    have e3 := f3.keep _ _ (Nat.ne_of_gt tl) (app_at (k := [.lst [.int 1, .int 1, .int 2, .int 3, .int 7, .int 15]]) e2)
    refine ix_lit (Fr.new T2 f3) u0 u1 fun k hk => ?_
    obtain ⟨k, rfl, k0⟩ : ∃ n : Int, k = .int n ∧ 0 < n := by
      simp only [List.mem_cons, List.not_mem_nil, or_false] at hk
      rcases hk with rfl | rfl | rfl | rfl | rfl | rfl <;> exact ⟨_, rfl, by decide⟩
    simp (maxSteps := 4000000) (disch := decide) only [↓zdg, ↓zbx, ↓FL.then_nx, ↓FL.then_rt, ↓FL.then_bk, ↓FL.then_ct, ↓zbu, ↓zbv, ↓zcz, ↓zew, ↓zdc, ↓zex, ↓zdd, ↓zbw, ↓zev, ↓zeu, ↓zet, ↓zcy, ↓zda, ↓zdb, ↓zde, ↓zey, ↓zes, ↓zbi, ↓zfx, ↓zfy, ↓zci, ↓zcj, ↓zfp, ↓zbh, ↓zfh, ↓zfn, ↓zga, ↓zfl, ↓zdp, ↓zdo, ↓zfm, ↓zff, ↓zfk, ↓zgc, ↓zfd, ↓zgd, ↓zfq, ↓or1, ↓and2, ↓or2, ↓zdr, ↓zfs, ↓zds, ↓zft, ↓zfg, ↓zeg, ↓zcr, ↓zfo, ↓zfj, ↓zgb, ↓zfr, ↓zer, ↓zbk, ↓zge, ↓zfz, ↓zfi, ↓zdm, ↓zfe, ↓zdn, ↓zca, ↓zcb, ↓zfa, ↓zfv, ↓zez, ↓zfw, ↓zfc, ↓zfu, ↓zfb, ↓zdj, ↓zcd, ↓zdk, ↓zbl, ↓zdy, ↓zcf, ↓zdz, ↓zcg, ↓zch, ↓zbz, ↓zcc, ↓zdi, ↓zei, ↓zeh, ↓zdx, ↓zdw, ↓zdu, ↓zdq, ↓zea, ↓zcs, ↓zct, ↓zen, ↓zbg, ↓zcv, ↓zcu, ↓zcx, ↓zce, ↓reduceIte, and_self, ↓zbt, ↓zcq, ↓zbs, ↓zbm, ↓zdl, ↓zdf, ↓zby, ↓zec, ↓zed, ↓zee, ↓zef, ↓zdv, ↓zdt, ↓zem, ↓zek, ↓zel, ↓zej, ↓zcl, ↓zeb, ↓zck, ↓zcn, ↓zco, ↓zcm, ↓zbo, ↓zcp, ↓zbn, ↓zbq, ↓zbr, ↓zbp, ↓zal, ↓zak, ↓zai, ↓zba, ↓zaj, ↓zax, ↓zaw, ↓zau, ↓zbe, ↓zav, ↓zad, ↓zac, ↓zaa, ↓zay, ↓zab, ↓zap, ↓zao, ↓zam, ↓zbb, ↓zan, ↓zat, ↓zas, ↓zaq, ↓zbc, ↓zar, ↓zah, ↓zag, ↓zae, ↓zaz, ↓zaf, Bool.not_true, Bool.not_false, Bool.false_eq_true, zbf, zbd, ↓sl0, ↓sl1, ↓sl2, ↓sl3, ↓sl4, ↓sl5, ↓sl6, ↓sl7, ↓sl8, true_and, and_true, zbj, decide_true, decide_false, List.getElem?_cons_zero, List.getElem?_cons_succ, List.set_cons_zero, List.set_cons_succ]
    refine (app_v e3 (by rw [List.length_map]; omega) ?_).2
    refine ⟨is ++ [(lw + w, if lw + 60 < lw + w + k then lw + 60 else lw + w + k)], by rw [List.map_append]; exact set_at e3, by simp; omega, fun p hp => ?_, T3.sput tl, (((f'.trans f2).trans .app).trans f3).put (Nat.le_refl _), _, _, rfl⟩
    rcases List.mem_append.mp hp with z | z
    · exact a0 p z
    · rw [List.mem_singleton.mp z]
      refine ⟨by show lw ≤ lw + w; omega, ?_, ?_⟩
      · show lw + w < if lw + 60 < lw + w + k then lw + 60 else lw + w + k
        split <;> omega
      · show (if lw + 60 < lw + w + k then lw + 60 else lw + w + k) ≤ lw + 60
        split <;> omega
  · subst eτ
    rw [rng_len] at l0
    simp (maxSteps := 4000000) (disch := decide) only [↓zdg, ↓zbx, ↓FL.then_nx, ↓FL.then_rt, ↓FL.then_bk, ↓FL.then_ct, ↓zbu, ↓zbv, ↓zcz, ↓zew, ↓zdc, ↓zex, ↓zdd, ↓zbw, ↓zev, ↓zeu, ↓zet, ↓zcy, ↓zda, ↓zdb, ↓zde, ↓zey, ↓zes, ↓zbi, ↓zfx, ↓zfy, ↓zci, ↓zcj, ↓zfp, ↓zbh, ↓zfh, ↓zfn, ↓zga, ↓zfl, ↓zdp, ↓zdo, ↓zfm, ↓zff, ↓zfk, ↓zgc, ↓zfd, ↓zgd, ↓zfq, ↓or1, ↓and2, ↓or2, ↓zdr, ↓zfs, ↓zds, ↓zft, ↓zfg, ↓zeg, ↓zcr, ↓zfo, ↓zfj, ↓zgb, ↓zfr, ↓zer, ↓zbk, ↓zge, ↓zfz, ↓zfi, ↓zdm, ↓zfe, ↓zdn, ↓zca, ↓zcb, ↓zfa, ↓zfv, ↓zez, ↓zfw, ↓zfc, ↓zfu, ↓zfb, ↓zdj, ↓zcd, ↓zdk, ↓zbl, ↓zdy, ↓zcf, ↓zdz, ↓zcg, ↓zch, ↓zbz, ↓zcc, ↓zdi, ↓zei, ↓zeh, ↓zdx, ↓zdw, ↓zdu, ↓zdq, ↓zea, ↓zcs, ↓zct, ↓zen, ↓zbg, ↓zcv, ↓zcu, ↓zcx, ↓zce, ↓reduceIte, and_self, ↓zbt, ↓zcq, ↓zbs, ↓zbm, ↓zdl, ↓zdf, ↓zby, ↓zec, ↓zed, ↓zee, ↓zef, ↓zdv, ↓zdt, ↓zem, ↓zek, ↓zel, ↓zej, ↓zcl, ↓zeb, ↓zck, ↓zcn, ↓zco, ↓zcm, ↓zbo, ↓zcp, ↓zbn, ↓zbq, ↓zbr, ↓zbp, ↓zal, ↓zak, ↓zai, ↓zba, ↓zaj, ↓zax, ↓zaw, ↓zau, ↓zbe, ↓zav, ↓zad, ↓zac, ↓zaa, ↓zay, ↓zab, ↓zap, ↓zao, ↓zam, ↓zbb, ↓zan, ↓zat, ↓zas, ↓zaq, ↓zbc, ↓zar, ↓zah, ↓zag, ↓zae, ↓zaz, ↓zaf, Bool.not_true, Bool.not_false, Bool.false_eq_true, zbf, zbd, ↓sl0, ↓sl1, ↓sl2, ↓sl3, ↓sl4, ↓sl5, ↓sl6, ↓sl7, ↓sl8, true_and, and_true, zbj, decide_true, decide_false, List.getElem?_cons_zero, List.getElem?_cons_succ, List.set_cons_zero, List.set_cons_succ]
    exact ⟨h.length, is, rfl, Nat.ne_of_gt tl, Nat.le_refl _, e0, by omega, a0, T', f'⟩
/-- a dict of numbers, all True -/
def numD (ns : List Int) : List (D × D) := ns.map fun i => (.int i, .bl true)
theorem num_any {ns : List Int} {k : Int} : (numD ns).any (fun p => D.keq p.1 (.int k)) = decide (k ∈ ns) := by
  induction ns with
  | nil => rfl
  | cons a ns ih =>
    show (D.keq (.int a) (.int k) || (numD ns).any _) = _
    rw [ih, show D.keq (.int a) (.int k) = decide (a = k) from rfl]
    by_cases h1 : a = k
    · subst h1; simp
    · by_cases h2 : k ∈ ns
      · simp [h1, h2]
      · simp [h1, h2, Ne.symm h1]
theorem dput_num {ns : List Int} {k : Int} : dput (numD ns) (.int k) (.bl true) = numD (if k ∈ ns then ns else ns ++ [k]) := by
  unfold dput
  rw [num_any]
  by_cases h : k ∈ ns
  · rw [if_pos (decide_eq_true h), if_pos h]
    unfold numD
    rw [List.map_map]
    refine List.map_congr_left fun a _ => ?_
    show (if _ then _ else _) = _
    split <;> rfl
  · rw [if_neg (by simpa using h), if_neg h]
    unfold numD
    simp
theorem members_v {E : XP} {P : D → Hd → Prop} {n : Nat} {es : List (Int × Int)} {lw : Int} {h : Hd} (e : h[n]? = some (.lst (es.map ipD))) (hl : es.length ≤ 1000) (lb : -1000000 ≤ lw ∧ lw ≤ 1000000) (hb : ∀ p ∈ es, lw ≤ p.1 ∧ p.1 < p.2 ∧ p.2 ≤ lw + 60)
    (q : ∀ m (ns : List Int) h', h.length ≤ m → h'[m]? = some (.dct (numD ns)) → ns.Nodup → ns.length ≤ 60000 → (∀ x, x ∈ ns ↔ memI es x) → Kp h h' → P (.ref m) h') : vC (E := E) fF26 [.ref n] h P := by
  refine vC.mono (P := fun d h' => ∃ m ns, d = .ref m ∧ h.length ≤ m ∧ h'[m]? = some (.dct (numD ns)) ∧ ns.Nodup ∧ ns.length ≤ 60000 ∧ (∀ x, x ∈ ns ↔ memI es x) ∧ Kp h h') ?_ fun d h' ⟨m, ns, e, r1, r2, r3, r4, r5, r6⟩ => e ▸ q m ns h' r1 r2 r3 r4 r5 r6
  refine runP_v (σ := [some (.ref n), none, none, none]) (by rfl) (by rfl) ?_
  unfold bB26
  have ln := lt_of e
  simp (maxSteps := 4000000) (disch := decide) only [↓zdg, ↓zbx, ↓FL.then_nx, ↓FL.then_rt, ↓FL.then_bk, ↓FL.then_ct, ↓zbu, ↓zbv, ↓zcz, ↓zew, ↓zdc, ↓zex, ↓zdd, ↓zbw, ↓zev, ↓zeu, ↓zet, ↓zcy, ↓zda, ↓zdb, ↓zde, ↓zey, ↓zes, ↓zbi, ↓zfx, ↓zfy, ↓zci, ↓zcj, ↓zfp, ↓zbh, ↓zfh, ↓zfn, ↓zga, ↓zfl, ↓zdp, ↓zdo, ↓zfm, ↓zff, ↓zfk, ↓zgc, ↓zfd, ↓zgd, ↓zfq, ↓or1, ↓and2, ↓or2, ↓zdr, ↓zfs, ↓zds, ↓zft, ↓zfg, ↓zeg, ↓zcr, ↓zfo, ↓zfj, ↓zgb, ↓zfr, ↓zer, ↓zbk, ↓zge, ↓zfz, ↓zfi, ↓zdm, ↓zfe, ↓zdn, ↓zca, ↓zcb, ↓zfa, ↓zfv, ↓zez, ↓zfw, ↓zfc, ↓zfu, ↓zfb, ↓zdj, ↓zcd, ↓zdk, ↓zbl, ↓zdy, ↓zcf, ↓zdz, ↓zcg, ↓zch, ↓zbz, ↓zcc, ↓zdi, ↓zei, ↓zeh, ↓zdx, ↓zdw, ↓zdu, ↓zdq, ↓zea, ↓zcs, ↓zct, ↓zen, ↓zbg, ↓zcv, ↓zcu, ↓zcx, ↓zce, ↓reduceIte, and_self, ↓zbt, ↓zcq, ↓zbs, ↓zbm, ↓zdl, ↓zdf, ↓zby, ↓zec, ↓zed, ↓zee, ↓zef, ↓zdv, ↓zdt, ↓zem, ↓zek, ↓zel, ↓zej, ↓zcl, ↓zeb, ↓zck, ↓zcn, ↓zco, ↓zcm, ↓zbo, ↓zcp, ↓zbn, ↓zbq, ↓zbr, ↓zbp, ↓zal, ↓zak, ↓zai, ↓zba, ↓zaj, ↓zax, ↓zaw, ↓zau, ↓zbe, ↓zav, ↓zad, ↓zac, ↓zaa, ↓zay, ↓zab, ↓zap, ↓zao, ↓zam, ↓zbb, ↓zan, ↓zat, ↓zas, ↓zaq, ↓zbc, ↓zar, ↓zah, ↓zag, ↓zae, ↓zaz, ↓zaf, Bool.not_true, Bool.not_false, Bool.false_eq_true, zbf, zbd, ↓sl0, ↓sl1, ↓sl2, ↓sl3, ↓sl4, ↓sl5, ↓sl6, ↓sl7, ↓sl8, true_and, and_true, zbj, decide_true, decide_false, List.getElem?_cons_zero, List.getElem?_cons_succ, List.set_cons_zero, List.set_cons_succ, ↓it_ref (app_at e)]
  refine for_sat (fun i τ h' => ∃ ns : List Int, h' = h ++ [.dct (numD ns)] ∧ ns.Nodup ∧ ns.length ≤ 60 * i ∧ (∀ x, x ∈ ns ↔ memI (es.take i) x) ∧ ∃ z2 z3, τ = [some (.ref n), some (.ref h.length), z2, z3])
    ⟨[], rfl, .nil, Nat.le_refl _, by simp [memI_nil], _, _, rfl⟩ (fun i τ h' _ ⟨ns, eh, _⟩ p hp => by rw [List.mem_singleton.mp hp, eh]; exact app_at e) (fun i τ h' d hd ⟨ns, eh, nd, l0, mm, z2, z3, eτ⟩ => ?_) fun τ h' ⟨ns, eh, nd, l0, mm, z2, z3, eτ⟩ => ?_
  · subst eτ eh
    rw [List.getElem?_map] at hd
    cases ex : es[i]? with
    | none => rw [ex] at hd; cases hd
    | some p =>
      rw [ex] at hd
      cases hd
      obtain ⟨a, b⟩ := p
      obtain ⟨hb1, hb2, hb3⟩ := hb (a, b) (List.mem_of_getElem? ex)
      have hb1 : lw ≤ a := hb1
      have hb2 : a < b := hb2
      have hb3 : b ≤ lw + 60 := hb3
      have hi := (List.getElem?_eq_some_iff.mp ex).1
      refine ⟨_, rfl, ?_⟩
      simp (maxSteps := 4000000) (disch := decide) only [↓zdg, ↓zbx, ↓FL.then_nx, ↓FL.then_rt, ↓FL.then_bk, ↓FL.then_ct, ↓zbu, ↓zbv, ↓zcz, ↓zew, ↓zdc, ↓zex, ↓zdd, ↓zbw, ↓zev, ↓zeu, ↓zet, ↓zcy, ↓zda, ↓zdb, ↓zde, ↓zey, ↓zes, ↓zbi, ↓zfx, ↓zfy, ↓zci, ↓zcj, ↓zfp, ↓zbh, ↓zfh, ↓zfn, ↓zga, ↓zfl, ↓zdp, ↓zdo, ↓zfm, ↓zff, ↓zfk, ↓zgc, ↓zfd, ↓zgd, ↓zfq, ↓or1, ↓and2, ↓or2, ↓zdr, ↓zfs, ↓zds, ↓zft, ↓zfg, ↓zeg, ↓zcr, ↓zfo, ↓zfj, ↓zgb, ↓zfr, ↓zer, ↓zbk, ↓zge, ↓zfz, ↓zfi, ↓zdm, ↓zfe, ↓zdn, ↓zca, ↓zcb, ↓zfa, ↓zfv, ↓zez, ↓zfw, ↓zfc, ↓zfu, ↓zfb, ↓zdj, ↓zcd, ↓zdk, ↓zbl, ↓zdy, ↓zcf, ↓zdz, ↓zcg, ↓zch, ↓zbz, ↓zcc, ↓zdi, ↓zei, ↓zeh, ↓zdx, ↓zdw, ↓zdu, ↓zdq, ↓zea, ↓zcs, ↓zct, ↓zen, ↓zbg, ↓zcv, ↓zcu, ↓zcx, ↓zce, ↓reduceIte, and_self, ↓zbt, ↓zcq, ↓zbs, ↓zbm, ↓zdl, ↓zdf, ↓zby, ↓zec, ↓zed, ↓zee, ↓zef, ↓zdv, ↓zdt, ↓zem, ↓zek, ↓zel, ↓zej, ↓zcl, ↓zeb, ↓zck, ↓zcn, ↓zco, ↓zcm, ↓zbo, ↓zcp, ↓zbn, ↓zbq, ↓zbr, ↓zbp, ↓zal, ↓zak, ↓zai, ↓zba, ↓zaj, ↓zax, ↓zaw, ↓zau, ↓zbe, ↓zav, ↓zad, ↓zac, ↓zaa, ↓zay, ↓zab, ↓zap, ↓zao, ↓zam, ↓zbb, ↓zan, ↓zat, ↓zas, ↓zaq, ↓zbc, ↓zar, ↓zah, ↓zag, ↓zae, ↓zaz, ↓zaf, Bool.not_true, Bool.not_false, Bool.false_eq_true, zbf, zbd, ↓sl0, ↓sl1, ↓sl2, ↓sl3, ↓sl4, ↓sl5, ↓sl6, ↓sl7, ↓sl8, true_and, and_true, zbj, decide_true, decide_false, List.getElem?_cons_zero, List.getElem?_cons_succ, List.set_cons_zero, List.set_cons_succ, ipD]
      refine rng2_i (by omega) (by omega) (by omega) (by omega) ?_
      refine for_sat (fun j τ h' => ∃ ns : List Int, h' = h ++ [.dct (numD ns)] ∧ ns.Nodup ∧ ns.length ≤ 60 * i + j ∧ (∀ x, x ∈ ns ↔ memI (es.take i) x ∨ (a ≤ x ∧ x < a + j)) ∧ ∃ z2 z3, τ = [some (.ref n), some (.ref h.length), z2, z3])
        ⟨ns, rfl, nd, by omega, fun x => by rw [mm x]; exact ⟨.inl, fun z => z.elim id fun z => by omega⟩, _, _, rfl⟩ (fun _ _ _ _ _ _ z => nomatch z) (fun j τ h' d hd ⟨ns, eh, nd, l0, mm, z2, z3, eτ⟩ => ?_) fun τ h' ⟨ns, eh, nd, l0, mm, z2, z3, eτ⟩ => ?_
      · subst eτ eh
        rw [List.getElem?_map] at hd
        have hj : j < (b - a).toNat := by
          cases q : (List.range (b - a).toNat)[j]? with
          | none => rw [q] at hd; cases hd
          | some y => have := (List.getElem?_eq_some_iff.mp q).1; simpa using this
        rw [List.getElem?_range hj] at hd
        cases hd
        refine ⟨_, rfl, ?_⟩
        have hz : (numD ns).length < sizeLine := by unfold numD; rw [List.length_map, sizeLine_eq]; omega
        have sd : setD2 (.ref h.length) (.int (a + (j : Int))) (.bl true) (h ++ [.dct (numD ns)]) = some (h ++ [.dct (numD (if a + (j : Int) ∈ ns then ns else ns ++ [a + (j : Int)]))]) := by
          rw [setD_dk (q := .inl (a + (j : Int))) app_new rfl hz, set_last, dput_num]
        simp (maxSteps := 4000000) (disch := decide) only [↓zdg, ↓zbx, ↓FL.then_nx, ↓FL.then_rt, ↓FL.then_bk, ↓FL.then_ct, ↓zbu, ↓zbv, ↓zcz, ↓zew, ↓zdc, ↓zex, ↓zdd, ↓zbw, ↓zev, ↓zeu, ↓zet, ↓zcy, ↓zda, ↓zdb, ↓zde, ↓zey, ↓zes, ↓zbi, ↓zfx, ↓zfy, ↓zci, ↓zcj, ↓zfp, ↓zbh, ↓zfh, ↓zfn, ↓zga, ↓zfl, ↓zdp, ↓zdo, ↓zfm, ↓zff, ↓zfk, ↓zgc, ↓zfd, ↓zgd, ↓zfq, ↓or1, ↓and2, ↓or2, ↓zdr, ↓zfs, ↓zds, ↓zft, ↓zfg, ↓zeg, ↓zcr, ↓zfo, ↓zfj, ↓zgb, ↓zfr, ↓zer, ↓zbk, ↓zge, ↓zfz, ↓zfi, ↓zdm, ↓zfe, ↓zdn, ↓zca, ↓zcb, ↓zfa, ↓zfv, ↓zez, ↓zfw, ↓zfc, ↓zfu, ↓zfb, ↓zdj, ↓zcd, ↓zdk, ↓zbl, ↓zdy, ↓zcf, ↓zdz, ↓zcg, ↓zch, ↓zbz, ↓zcc, ↓zdi, ↓zei, ↓zeh, ↓zdx, ↓zdw, ↓zdu, ↓zdq, ↓zea, ↓zcs, ↓zct, ↓zen, ↓zbg, ↓zcv, ↓zcu, ↓zcx, ↓zce, ↓reduceIte, and_self, ↓zbt, ↓zcq, ↓zbs, ↓zbm, ↓zdl, ↓zdf, ↓zby, ↓zec, ↓zed, ↓zee, ↓zef, ↓zdv, ↓zdt, ↓zem, ↓zek, ↓zel, ↓zej, ↓zcl, ↓zeb, ↓zck, ↓zcn, ↓zco, ↓zcm, ↓zbo, ↓zcp, ↓zbn, ↓zbq, ↓zbr, ↓zbp, ↓zal, ↓zak, ↓zai, ↓zba, ↓zaj, ↓zax, ↓zaw, ↓zau, ↓zbe, ↓zav, ↓zad, ↓zac, ↓zaa, ↓zay, ↓zab, ↓zap, ↓zao, ↓zam, ↓zbb, ↓zan, ↓zat, ↓zas, ↓zaq, ↓zbc, ↓zar, ↓zah, ↓zag, ↓zae, ↓zaz, ↓zaf, Bool.not_true, Bool.not_false, Bool.false_eq_true, zbf, zbd, ↓sl0, ↓sl1, ↓sl2, ↓sl3, ↓sl4, ↓sl5, ↓sl6, ↓sl7, ↓sl8, true_and, and_true, zbj, decide_true, decide_false, List.getElem?_cons_zero, List.getElem?_cons_succ, List.set_cons_zero, List.set_cons_succ, sd]
        refine ⟨_, rfl, ?_, ?_, fun x => ?_, _, _, rfl⟩
        · split
          · exact nd
          · rename_i hn
            exact List.nodup_append.mpr ⟨nd, by simp, fun a' ha' b' hb' => by rw [List.mem_singleton.mp hb']; intro z; subst z; exact hn ha'⟩
        · split
          · omega
          · simp; omega
        · have key : x ∈ (if a + (j : Int) ∈ ns then ns else ns ++ [a + (j : Int)]) ↔ x ∈ ns ∨ x = a + (j : Int) := by
            split
            · rename_i hm
              exact ⟨.inl, fun z => z.elim id fun z => z ▸ hm⟩
            · simp
          rw [key, mm x]
          constructor
          · rintro ((z | z) | z)
            · exact .inl z
            · exact .inr (by omega)
            · exact .inr (by omega)
          · rintro (z | z)
            · exact .inl (.inl z)
            · by_cases hx : x = a + (j : Int)
              · exact .inr hx
              · exact .inl (.inr (by omega))
      · subst eτ eh
        simp (maxSteps := 4000000) (disch := decide) only [↓zdg, ↓zbx, ↓FL.then_nx, ↓FL.then_rt, ↓FL.then_bk, ↓FL.then_ct, ↓zbu, ↓zbv, ↓zcz, ↓zew, ↓zdc, ↓zex, ↓zdd, ↓zbw, ↓zev, ↓zeu, ↓zet, ↓zcy, ↓zda, ↓zdb, ↓zde, ↓zey, ↓zes, ↓zbi, ↓zfx, ↓zfy, ↓zci, ↓zcj, ↓zfp, ↓zbh, ↓zfh, ↓zfn, ↓zga, ↓zfl, ↓zdp, ↓zdo, ↓zfm, ↓zff, ↓zfk, ↓zgc, ↓zfd, ↓zgd, ↓zfq, ↓or1, ↓and2, ↓or2, ↓zdr, ↓zfs, ↓zds, ↓zft, ↓zfg, ↓zeg, ↓zcr, ↓zfo, ↓zfj, ↓zgb, ↓zfr, ↓zer, ↓zbk, ↓zge, ↓zfz, ↓zfi, ↓zdm, ↓zfe, ↓zdn, ↓zca, ↓zcb, ↓zfa, ↓zfv, ↓zez, ↓zfw, ↓zfc, ↓zfu, ↓zfb, ↓zdj, ↓zcd, ↓zdk, ↓zbl, ↓zdy, ↓zcf, ↓zdz, ↓zcg, ↓zch, ↓zbz, ↓zcc, ↓zdi, ↓zei, ↓zeh, ↓zdx, ↓zdw, ↓zdu, ↓zdq, ↓zea, ↓zcs, ↓zct, ↓zen, ↓zbg, ↓zcv, ↓zcu, ↓zcx, ↓zce, ↓reduceIte, and_self, ↓zbt, ↓zcq, ↓zbs, ↓zbm, ↓zdl, ↓zdf, ↓zby, ↓zec, ↓zed, ↓zee, ↓zef, ↓zdv, ↓zdt, ↓zem, ↓zek, ↓zel, ↓zej, ↓zcl, ↓zeb, ↓zck, ↓zcn, ↓zco, ↓zcm, ↓zbo, ↓zcp, ↓zbn, ↓zbq, ↓zbr, ↓zbp, ↓zal, ↓zak, ↓zai, ↓zba, ↓zaj, ↓zax, ↓zaw, ↓zau, ↓zbe, ↓zav, ↓zad, ↓zac, ↓zaa, ↓zay, ↓zab, ↓zap, ↓zao, ↓zam, ↓zbb, ↓zan, ↓zat, ↓zas, ↓zaq, ↓zbc, ↓zar, ↓zah, ↓zag, ↓zae, ↓zaz, ↓zaf, Bool.not_true, Bool.not_false, Bool.false_eq_true, zbf, zbd, ↓sl0, ↓sl1, ↓sl2, ↓sl3, ↓sl4, ↓sl5, ↓sl6, ↓sl7, ↓sl8, true_and, and_true, zbj, decide_true, decide_false, List.getElem?_cons_zero, List.getElem?_cons_succ, List.set_cons_zero, List.set_cons_succ]
        have ej : (({ items := (List.range (b - a).toNat).map fun (k : Nat) => D.int (a + (k : Int)), srcs := [] } : ItD).items.length) = (b - a).toNat := by simp
        rw [ej] at l0 mm
        refine ⟨ns, rfl, nd, by omega, fun x => ?_, _, _, rfl⟩
        rw [mm x, take_snoc ex, memI_append, memI_one]
        have : ((b - a).toNat : Int) = b - a := by omega
        rw [this]
        show _ ↔ _ ∨ a ≤ x ∧ x < b
        have e2 : a + (b - a) = b := by omega
        rw [e2]
  · subst eτ eh
    rw [List.length_map] at l0 mm
    rw [List.take_length] at mm
    simp (maxSteps := 4000000) (disch := decide) only [↓zdg, ↓zbx, ↓FL.then_nx, ↓FL.then_rt, ↓FL.then_bk, ↓FL.then_ct, ↓zbu, ↓zbv, ↓zcz, ↓zew, ↓zdc, ↓zex, ↓zdd, ↓zbw, ↓zev, ↓zeu, ↓zet, ↓zcy, ↓zda, ↓zdb, ↓zde, ↓zey, ↓zes, ↓zbi, ↓zfx, ↓zfy, ↓zci, ↓zcj, ↓zfp, ↓zbh, ↓zfh, ↓zfn, ↓zga, ↓zfl, ↓zdp, ↓zdo, ↓zfm, ↓zff, ↓zfk, ↓zgc, ↓zfd, ↓zgd, ↓zfq, ↓or1, ↓and2, ↓or2, ↓zdr, ↓zfs, ↓zds, ↓zft, ↓zfg, ↓zeg, ↓zcr, ↓zfo, ↓zfj, ↓zgb, ↓zfr, ↓zer, ↓zbk, ↓zge, ↓zfz, ↓zfi, ↓zdm, ↓zfe, ↓zdn, ↓zca, ↓zcb, ↓zfa, ↓zfv, ↓zez, ↓zfw, ↓zfc, ↓zfu, ↓zfb, ↓zdj, ↓zcd, ↓zdk, ↓zbl, ↓zdy, ↓zcf, ↓zdz, ↓zcg, ↓zch, ↓zbz, ↓zcc, ↓zdi, ↓zei, ↓zeh, ↓zdx, ↓zdw, ↓zdu, ↓zdq, ↓zea, ↓zcs, ↓zct, ↓zen, ↓zbg, ↓zcv, ↓zcu, ↓zcx, ↓zce, ↓reduceIte, and_self, ↓zbt, ↓zcq, ↓zbs, ↓zbm, ↓zdl, ↓zdf, ↓zby, ↓zec, ↓zed, ↓zee, ↓zef, ↓zdv, ↓zdt, ↓zem, ↓zek, ↓zel, ↓zej, ↓zcl, ↓zeb, ↓zck, ↓zcn, ↓zco, ↓zcm, ↓zbo, ↓zcp, ↓zbn, ↓zbq, ↓zbr, ↓zbp, ↓zal, ↓zak, ↓zai, ↓zba, ↓zaj, ↓zax, ↓zaw, ↓zau, ↓zbe, ↓zav, ↓zad, ↓zac, ↓zaa, ↓zay, ↓zab, ↓zap, ↓zao, ↓zam, ↓zbb, ↓zan, ↓zat, ↓zas, ↓zaq, ↓zbc, ↓zar, ↓zah, ↓zag, ↓zae, ↓zaz, ↓zaf, Bool.not_true, Bool.not_false, Bool.false_eq_true, zbf, zbd, ↓sl0, ↓sl1, ↓sl2, ↓sl3, ↓sl4, ↓sl5, ↓sl6, ↓sl7, ↓sl8, true_and, and_true, zbj, decide_true, decide_false, List.getElem?_cons_zero, List.getElem?_cons_succ, List.set_cons_zero, List.set_cons_succ]
    exact ⟨h.length, ns, rfl, Nat.le_refl _, app_new, nd, by omega, mm, .app⟩
def sortN (ns : List Int) : List Int := sortA (fun a b => decide (a < b)) ns
theorem sortN_lt {ns : List Int} (nd : ns.Nodup) : (sortN ns).Pairwise (· < ·) := by
  have s := sortA_sorted (lt := fun a b : Int => decide (a < b)) (l := ns) (fun a b c h1 h2 => by simp only [decide_eq_false_iff_not] at *; omega) (fun a b => by simp only [decide_eq_false_iff_not]; omega)
  have nd2 : (sortN ns).Nodup := (sortA_perm).nodup_iff.mpr nd
  have := List.Pairwise.and s nd2
  refine this.imp fun {a b} h => ?_
  obtain ⟨h1, h2⟩ := h
  simp only [decide_eq_false_iff_not] at h1
  omega
theorem joined_v {E : XP} {P : D → Hd → Prop} {n : Nat} {ns : List Int} {h : Hd} (e : h[n]? = some (.dct (numD ns))) (nd : ns.Nodup) (hl : ns.length ≤ 60000) (q : ∀ S h', CanonI S → (∀ x, memI S x ↔ x ∈ ns) → S.length ≤ ns.length → Kp h h' → P (.tup (S.map ipD)) h') : vC (E := E) fF27 [.ref n] h P := by
  refine vC.mono (P := fun d h' => ∃ S, d = .tup (S.map ipD) ∧ CanonI S ∧ (∀ x, memI S x ↔ x ∈ ns) ∧ S.length ≤ ns.length ∧ Kp h h') ?_ fun d h' ⟨S, e, r1, r2, r3, r4⟩ => e ▸ q S h' r1 r2 r3 r4
  refine runP_v (σ := [some (.ref n), none, none]) (by rfl) (by rfl) ?_
  unfold bB27
  have ln := lt_of e
  simp (maxSteps := 4000000) (disch := decide) only [↓zdg, ↓zbx, ↓FL.then_nx, ↓FL.then_rt, ↓FL.then_bk, ↓FL.then_ct, ↓zbu, ↓zbv, ↓zcz, ↓zew, ↓zdc, ↓zex, ↓zdd, ↓zbw, ↓zev, ↓zeu, ↓zet, ↓zcy, ↓zda, ↓zdb, ↓zde, ↓zey, ↓zes, ↓zbi, ↓zfx, ↓zfy, ↓zci, ↓zcj, ↓zfp, ↓zbh, ↓zfh, ↓zfn, ↓zga, ↓zfl, ↓zdp, ↓zdo, ↓zfm, ↓zff, ↓zfk, ↓zgc, ↓zfd, ↓zgd, ↓zfq, ↓or1, ↓and2, ↓or2, ↓zdr, ↓zfs, ↓zds, ↓zft, ↓zfg, ↓zeg, ↓zcr, ↓zfo, ↓zfj, ↓zgb, ↓zfr, ↓zer, ↓zbk, ↓zge, ↓zfz, ↓zfi, ↓zdm, ↓zfe, ↓zdn, ↓zca, ↓zcb, ↓zfa, ↓zfv, ↓zez, ↓zfw, ↓zfc, ↓zfu, ↓zfb, ↓zdj, ↓zcd, ↓zdk, ↓zbl, ↓zdy, ↓zcf, ↓zdz, ↓zcg, ↓zch, ↓zbz, ↓zcc, ↓zdi, ↓zei, ↓zeh, ↓zdx, ↓zdw, ↓zdu, ↓zdq, ↓zea, ↓zcs, ↓zct, ↓zen, ↓zbg, ↓zcv, ↓zcu, ↓zcx, ↓zce, ↓reduceIte, and_self, ↓zbt, ↓zcq, ↓zbs, ↓zbm, ↓zdl, ↓zdf, ↓zby, ↓zec, ↓zed, ↓zee, ↓zef, ↓zdv, ↓zdt, ↓zem, ↓zek, ↓zel, ↓zej, ↓zcl, ↓zeb, ↓zck, ↓zcn, ↓zco, ↓zcm, ↓zbo, ↓zcp, ↓zbn, ↓zbq, ↓zbr, ↓zbp, ↓zal, ↓zak, ↓zai, ↓zba, ↓zaj, ↓zax, ↓zaw, ↓zau, ↓zbe, ↓zav, ↓zad, ↓zac, ↓zaa, ↓zay, ↓zab, ↓zap, ↓zao, ↓zam, ↓zbb, ↓zan, ↓zat, ↓zas, ↓zaq, ↓zbc, ↓zar, ↓zah, ↓zag, ↓zae, ↓zaz, ↓zaf, Bool.not_true, Bool.not_false, Bool.false_eq_true, zbf, zbd, ↓sl0, ↓sl1, ↓sl2, ↓sl3, ↓sl4, ↓sl5, ↓sl6, ↓sl7, ↓sl8, true_and, and_true, zbj, decide_true, decide_false, List.getElem?_cons_zero, List.getElem?_cons_succ, List.set_cons_zero, List.set_cons_succ, ↓list_dk (app_at e)]
  have e1 : (numD ns).map (·.1) = ns.map D.int := by unfold numD; rw [List.map_map]; rfl
  rw [e1, len1, snoc2]
  refine sorted_v (ds := ns.map D.int) (seqOf_ref app2_1) (by rw [List.length_map]; omega) so_ints ?_
  have es2 : sortB ((ns.map D.int).zip (ns.map D.int)) = (sortN ns).map D.int := sortB_map (f := D.int) (kf := D.int) (lt := fun a b => decide (a < b)) fun a _ b _ => int_lt a b
  rw [es2]
  have l2 : (h ++ [OD.lst [], OD.lst (ns.map D.int)]).length = h.length + 2 := by simp
  rw [l2]
  have g2 : ∀ {x y z : OD}, (h ++ [x, y] ++ [z])[h.length + 2]? = some z := fun {x y z} => by simp
  have g0 : ∀ {x y z : OD}, (h ++ [x, y] ++ [z])[h.length]? = some x := fun {x y z} => by simp
  simp (maxSteps := 4000000) (disch := decide) only [↓zdg, ↓zbx, ↓FL.then_nx, ↓FL.then_rt, ↓FL.then_bk, ↓FL.then_ct, ↓zbu, ↓zbv, ↓zcz, ↓zew, ↓zdc, ↓zex, ↓zdd, ↓zbw, ↓zev, ↓zeu, ↓zet, ↓zcy, ↓zda, ↓zdb, ↓zde, ↓zey, ↓zes, ↓zbi, ↓zfx, ↓zfy, ↓zci, ↓zcj, ↓zfp, ↓zbh, ↓zfh, ↓zfn, ↓zga, ↓zfl, ↓zdp, ↓zdo, ↓zfm, ↓zff, ↓zfk, ↓zgc, ↓zfd, ↓zgd, ↓zfq, ↓or1, ↓and2, ↓or2, ↓zdr, ↓zfs, ↓zds, ↓zft, ↓zfg, ↓zeg, ↓zcr, ↓zfo, ↓zfj, ↓zgb, ↓zfr, ↓zer, ↓zbk, ↓zge, ↓zfz, ↓zfi, ↓zdm, ↓zfe, ↓zdn, ↓zca, ↓zcb, ↓zfa, ↓zfv, ↓zez, ↓zfw, ↓zfc, ↓zfu, ↓zfb, ↓zdj, ↓zcd, ↓zdk, ↓zbl, ↓zdy, ↓zcf, ↓zdz, ↓zcg, ↓zch, ↓zbz, ↓zcc, ↓zdi, ↓zei, ↓zeh, ↓zdx, ↓zdw, ↓zdu, ↓zdq, ↓zea, ↓zcs, ↓zct, ↓zen, ↓zbg, ↓zcv, ↓zcu, ↓zcx, ↓zce, ↓reduceIte, and_self, ↓zbt, ↓zcq, ↓zbs, ↓zbm, ↓zdl, ↓zdf, ↓zby, ↓zec, ↓zed, ↓zee, ↓zef, ↓zdv, ↓zdt, ↓zem, ↓zek, ↓zel, ↓zej, ↓zcl, ↓zeb, ↓zck, ↓zcn, ↓zco, ↓zcm, ↓zbo, ↓zcp, ↓zbn, ↓zbq, ↓zbr, ↓zbp, ↓zal, ↓zak, ↓zai, ↓zba, ↓zaj, ↓zax, ↓zaw, ↓zau, ↓zbe, ↓zav, ↓zad, ↓zac, ↓zaa, ↓zay, ↓zab, ↓zap, ↓zao, ↓zam, ↓zbb, ↓zan, ↓zat, ↓zas, ↓zaq, ↓zbc, ↓zar, ↓zah, ↓zag, ↓zae, ↓zaz, ↓zaf, Bool.not_true, Bool.not_false, Bool.false_eq_true, zbf, zbd, ↓sl0, ↓sl1, ↓sl2, ↓sl3, ↓sl4, ↓sl5, ↓sl6, ↓sl7, ↓sl8, true_and, and_true, zbj, decide_true, decide_false, List.getElem?_cons_zero, List.getElem?_cons_succ, List.set_cons_zero, List.set_cons_succ, ↓it_ref g2]
  have srt := sortN_lt nd
  have lnn : (sortN ns).length = ns.length := sortA_len
  refine for_sat (fun i τ h' => ∃ acc : List (Int × Int), h'[h.length]? = some (.lst (acc.map ipD)) ∧ h'[h.length + 2]? = some (.lst ((sortN ns).map D.int)) ∧ Kp h h' ∧ CanonI acc ∧ (∀ x, memI acc x ↔ x ∈ (sortN ns).take i) ∧ acc.length ≤ i ∧ (∀ p ∈ acc, ∀ y ∈ (sortN ns).drop i, p.2 ≤ y) ∧ ∃ z2, τ = [some (.ref n), some (.ref h.length), z2])
    ⟨[], g0, g2, Kp.more .app, .nil, by simp [memI_nil], Nat.le_refl _, (fun _ z => nomatch z), _, rfl⟩ (fun i τ h' _ ⟨acc, e0, e1, _⟩ p hp => by rw [List.mem_singleton.mp hp]; exact e1) (fun i τ h' d hd ⟨acc, e0, e1, kp, cn, mm, ln, lo, z2, eτ⟩ => ?_) fun τ h' ⟨acc, e0, e1, kp, cn, mm, ln, lo, z2, eτ⟩ => ?_
  · subst eτ
    rw [List.getElem?_map] at hd
    cases ex : (sortN ns)[i]? with
    | none => rw [ex] at hd; cases hd
    | some y =>
      rw [ex] at hd
      cases hd
      have hi := (List.getElem?_eq_some_iff.mp ex).1
      have hdr : (sortN ns).drop i = y :: (sortN ns).drop (i + 1) := by
        rw [List.drop_eq_getElem_cons hi]
        rw [List.getElem?_eq_getElem hi] at ex
        rw [Option.some.inj ex]
      have later : ∀ q ∈ (sortN ns).drop (i + 1), y + 1 ≤ q := fun q hq => by
        have := List.Pairwise.sublist (List.drop_sublist i _) srt
        rw [hdr] at this
        have := (List.pairwise_cons.mp this).1 q hq
        omega
      refine ⟨_, rfl, ?_⟩
      rw [take_snoc ex]
      have in1 : ∀ {x : Int} {A : Prop}, (A ∨ y ≤ x ∧ x < y + 1) ↔ (A ∨ x ∈ [y]) := fun {x A} => by
        simp only [List.mem_singleton]
        constructor
        · rintro (z | z)
          · exact .inl z
          · exact .inr (by omega)
        · rintro (z | z)
          · exact .inl z
          · exact .inr (by omega)
      rcases nil_or_snoc acc with rfl | ⟨r, ⟨a, b⟩, rfl⟩
      · have d0 : decide ((0 : Int) < (([] : List D).length : Int)) = false := rfl
        simp (maxSteps := 4000000) (disch := decide) only [↓zdg, ↓zbx, ↓FL.then_nx, ↓FL.then_rt, ↓FL.then_bk, ↓FL.then_ct, ↓zbu, ↓zbv, ↓zcz, ↓zew, ↓zdc, ↓zex, ↓zdd, ↓zbw, ↓zev, ↓zeu, ↓zet, ↓zcy, ↓zda, ↓zdb, ↓zde, ↓zey, ↓zes, ↓zbi, ↓zfx, ↓zfy, ↓zci, ↓zcj, ↓zfp, ↓zbh, ↓zfh, ↓zfn, ↓zga, ↓zfl, ↓zdp, ↓zdo, ↓zfm, ↓zff, ↓zfk, ↓zgc, ↓zfd, ↓zgd, ↓zfq, ↓or1, ↓and2, ↓or2, ↓zdr, ↓zfs, ↓zds, ↓zft, ↓zfg, ↓zeg, ↓zcr, ↓zfo, ↓zfj, ↓zgb, ↓zfr, ↓zer, ↓zbk, ↓zge, ↓zfz, ↓zfi, ↓zdm, ↓zfe, ↓zdn, ↓zca, ↓zcb, ↓zfa, ↓zfv, ↓zez, ↓zfw, ↓zfc, ↓zfu, ↓zfb, ↓zdj, ↓zcd, ↓zdk, ↓zbl, ↓zdy, ↓zcf, ↓zdz, ↓zcg, ↓zch, ↓zbz, ↓zcc, ↓zdi, ↓zei, ↓zeh, ↓zdx, ↓zdw, ↓zdu, ↓zdq, ↓zea, ↓zcs, ↓zct, ↓zen, ↓zbg, ↓zcv, ↓zcu, ↓zcx, ↓zce, ↓reduceIte, and_self, ↓zbt, ↓zcq, ↓zbs, ↓zbm, ↓zdl, ↓zdf, ↓zby, ↓zec, ↓zed, ↓zee, ↓zef, ↓zdv, ↓zdt, ↓zem, ↓zek, ↓zel, ↓zej, ↓zcl, ↓zeb, ↓zck, ↓zcn, ↓zco, ↓zcm, ↓zbo, ↓zcp, ↓zbn, ↓zbq, ↓zbr, ↓zbp, ↓zal, ↓zak, ↓zai, ↓zba, ↓zaj, ↓zax, ↓zaw, ↓zau, ↓zbe, ↓zav, ↓zad, ↓zac, ↓zaa, ↓zay, ↓zab, ↓zap, ↓zao, ↓zam, ↓zbb, ↓zan, ↓zat, ↓zas, ↓zaq, ↓zbc, ↓zar, ↓zah, ↓zag, ↓zae, ↓zaz, ↓zaf, Bool.not_true, Bool.not_false, Bool.false_eq_true, zbf, zbd, ↓sl0, ↓sl1, ↓sl2, ↓sl3, ↓sl4, ↓sl5, ↓sl6, ↓sl7, ↓sl8, true_and, and_true, zbj, decide_true, decide_false, List.getElem?_cons_zero, List.getElem?_cons_succ, List.set_cons_zero, List.set_cons_succ, ↓len_ref e0, List.map_nil, d0]
        refine app_v e0 (Nat.zero_le _) ?_
        refine ⟨[(y, y + 1)], set_at e0, set_ne e1 (by omega), kp.put (Nat.le_refl _), CanonI.nil.push (by show y < y + 1; omega) (fun _ z => nomatch z), fun x => ?_, Nat.succ_le_succ (Nat.zero_le _), fun p hp q hq => ?_, _, rfl⟩
        · rw [List.mem_append, ← mm x, memI_one]
          have := in1 (x := x) (A := memI [] x)
          rw [← this]; simp [memI_nil]
        · rw [List.mem_singleton.mp hp]; exact later q hq
      · have e0' : h'[h.length]? = some (.lst (r.map ipD ++ [ipD (a, b)])) := by rw [e0, List.map_append]; rfl
        have hby : b ≤ y := lo (a, b) (by simp) y (by rw [hdr]; exact List.mem_cons_self)
        obtain ⟨c1, c2, c3⟩ := cn.init
        have c2 : a < b := c2
        simp (maxSteps := 4000000) (disch := decide) only [↓zdg, ↓zbx, ↓FL.then_nx, ↓FL.then_rt, ↓FL.then_bk, ↓FL.then_ct, ↓zbu, ↓zbv, ↓zcz, ↓zew, ↓zdc, ↓zex, ↓zdd, ↓zbw, ↓zev, ↓zeu, ↓zet, ↓zcy, ↓zda, ↓zdb, ↓zde, ↓zey, ↓zes, ↓zbi, ↓zfx, ↓zfy, ↓zci, ↓zcj, ↓zfp, ↓zbh, ↓zfh, ↓zfn, ↓zga, ↓zfl, ↓zdp, ↓zdo, ↓zfm, ↓zff, ↓zfk, ↓zgc, ↓zfd, ↓zgd, ↓zfq, ↓or1, ↓and2, ↓or2, ↓zdr, ↓zfs, ↓zds, ↓zft, ↓zfg, ↓zeg, ↓zcr, ↓zfo, ↓zfj, ↓zgb, ↓zfr, ↓zer, ↓zbk, ↓zge, ↓zfz, ↓zfi, ↓zdm, ↓zfe, ↓zdn, ↓zca, ↓zcb, ↓zfa, ↓zfv, ↓zez, ↓zfw, ↓zfc, ↓zfu, ↓zfb, ↓zdj, ↓zcd, ↓zdk, ↓zbl, ↓zdy, ↓zcf, ↓zdz, ↓zcg, ↓zch, ↓zbz, ↓zcc, ↓zdi, ↓zei, ↓zeh, ↓zdx, ↓zdw, ↓zdu, ↓zdq, ↓zea, ↓zcs, ↓zct, ↓zen, ↓zbg, ↓zcv, ↓zcu, ↓zcx, ↓zce, ↓reduceIte, and_self, ↓zbt, ↓zcq, ↓zbs, ↓zbm, ↓zdl, ↓zdf, ↓zby, ↓zec, ↓zed, ↓zee, ↓zef, ↓zdv, ↓zdt, ↓zem, ↓zek, ↓zel, ↓zej, ↓zcl, ↓zeb, ↓zck, ↓zcn, ↓zco, ↓zcm, ↓zbo, ↓zcp, ↓zbn, ↓zbq, ↓zbr, ↓zbp, ↓zal, ↓zak, ↓zai, ↓zba, ↓zaj, ↓zax, ↓zaw, ↓zau, ↓zbe, ↓zav, ↓zad, ↓zac, ↓zaa, ↓zay, ↓zab, ↓zap, ↓zao, ↓zam, ↓zbb, ↓zan, ↓zat, ↓zas, ↓zaq, ↓zbc, ↓zar, ↓zah, ↓zag, ↓zae, ↓zaz, ↓zaf, Bool.not_true, Bool.not_false, Bool.false_eq_true, zbf, zbd, ↓sl0, ↓sl1, ↓sl2, ↓sl3, ↓sl4, ↓sl5, ↓sl6, ↓sl7, ↓sl8, true_and, and_true, zbj, decide_true, decide_false, List.getElem?_cons_zero, List.getElem?_cons_succ, List.set_cons_zero, List.set_cons_succ, ↓len_ref e0', ipD, ↓ix_last e0']
        split
        rotate_left
        · rename_i hn
          exact absurd (by simp) hn
        by_cases hb : b = y
        · simp (maxSteps := 4000000) (disch := decide) only [↓zdg, ↓zbx, ↓FL.then_nx, ↓FL.then_rt, ↓FL.then_bk, ↓FL.then_ct, ↓zbu, ↓zbv, ↓zcz, ↓zew, ↓zdc, ↓zex, ↓zdd, ↓zbw, ↓zev, ↓zeu, ↓zet, ↓zcy, ↓zda, ↓zdb, ↓zde, ↓zey, ↓zes, ↓zbi, ↓zfx, ↓zfy, ↓zci, ↓zcj, ↓zfp, ↓zbh, ↓zfh, ↓zfn, ↓zga, ↓zfl, ↓zdp, ↓zdo, ↓zfm, ↓zff, ↓zfk, ↓zgc, ↓zfd, ↓zgd, ↓zfq, ↓or1, ↓and2, ↓or2, ↓zdr, ↓zfs, ↓zds, ↓zft, ↓zfg, ↓zeg, ↓zcr, ↓zfo, ↓zfj, ↓zgb, ↓zfr, ↓zer, ↓zbk, ↓zge, ↓zfz, ↓zfi, ↓zdm, ↓zfe, ↓zdn, ↓zca, ↓zcb, ↓zfa, ↓zfv, ↓zez, ↓zfw, ↓zfc, ↓zfu, ↓zfb, ↓zdj, ↓zcd, ↓zdk, ↓zbl, ↓zdy, ↓zcf, ↓zdz, ↓zcg, ↓zch, ↓zbz, ↓zcc, ↓zdi, ↓zei, ↓zeh, ↓zdx, ↓zdw, ↓zdu, ↓zdq, ↓zea, ↓zcs, ↓zct, ↓zen, ↓zbg, ↓zcv, ↓zcu, ↓zcx, ↓zce, ↓reduceIte, and_self, ↓zbt, ↓zcq, ↓zbs, ↓zbm, ↓zdl, ↓zdf, ↓zby, ↓zec, ↓zed, ↓zee, ↓zef, ↓zdv, ↓zdt, ↓zem, ↓zek, ↓zel, ↓zej, ↓zcl, ↓zeb, ↓zck, ↓zcn, ↓zco, ↓zcm, ↓zbo, ↓zcp, ↓zbn, ↓zbq, ↓zbr, ↓zbp, ↓zal, ↓zak, ↓zai, ↓zba, ↓zaj, ↓zax, ↓zaw, ↓zau, ↓zbe, ↓zav, ↓zad, ↓zac, ↓zaa, ↓zay, ↓zab, ↓zap, ↓zao, ↓zam, ↓zbb, ↓zan, ↓zat, ↓zas, ↓zaq, ↓zbc, ↓zar, ↓zah, ↓zag, ↓zae, ↓zaz, ↓zaf, Bool.not_true, Bool.not_false, Bool.false_eq_true, zbf, zbd, ↓sl0, ↓sl1, ↓sl2, ↓sl3, ↓sl4, ↓sl5, ↓sl6, ↓sl7, ↓sl8, true_and, and_true, zbj, decide_true, decide_false, List.getElem?_cons_zero, List.getElem?_cons_succ, List.set_cons_zero, List.set_cons_succ, hb, setD_last e0']
          subst hb
          refine ⟨r ++ [(a, b + 1)], by rw [List.map_append]; exact set_at e0', set_ne e1 (by omega), kp.put (Nat.le_refl _), cn.grow (by omega), fun x => ?_, by simp at ln ⊢; omega, fun p hp q hq => ?_, _, rfl⟩
          · rw [List.mem_append, ← mm x, ← in1, memI_append, memI_append, memI_one, memI_one]
            show (memI r x ∨ a ≤ x ∧ x < b + 1) ↔ (memI r x ∨ a ≤ x ∧ x < b) ∨ b ≤ x ∧ x < b + 1
            constructor
            · rintro (z | z)
              · exact .inl (.inl z)
              · by_cases hx : x < b
                · exact .inl (.inr ⟨z.1, hx⟩)
                · exact .inr ⟨by omega, z.2⟩
            · rintro ((z | z) | z)
              · exact .inl z
              · exact .inr ⟨z.1, by omega⟩
              · exact .inr ⟨by omega, z.2⟩
          · rcases List.mem_append.mp hp with z | z
            · have := lo p (List.mem_append_left _ z) q (by rw [hdr]; exact List.mem_cons_of_mem _ hq)
              exact this
            · rw [List.mem_singleton.mp z]; exact later q hq
        · simp (maxSteps := 4000000) (disch := decide) only [↓zdg, ↓zbx, ↓FL.then_nx, ↓FL.then_rt, ↓FL.then_bk, ↓FL.then_ct, ↓zbu, ↓zbv, ↓zcz, ↓zew, ↓zdc, ↓zex, ↓zdd, ↓zbw, ↓zev, ↓zeu, ↓zet, ↓zcy, ↓zda, ↓zdb, ↓zde, ↓zey, ↓zes, ↓zbi, ↓zfx, ↓zfy, ↓zci, ↓zcj, ↓zfp, ↓zbh, ↓zfh, ↓zfn, ↓zga, ↓zfl, ↓zdp, ↓zdo, ↓zfm, ↓zff, ↓zfk, ↓zgc, ↓zfd, ↓zgd, ↓zfq, ↓or1, ↓and2, ↓or2, ↓zdr, ↓zfs, ↓zds, ↓zft, ↓zfg, ↓zeg, ↓zcr, ↓zfo, ↓zfj, ↓zgb, ↓zfr, ↓zer, ↓zbk, ↓zge, ↓zfz, ↓zfi, ↓zdm, ↓zfe, ↓zdn, ↓zca, ↓zcb, ↓zfa, ↓zfv, ↓zez, ↓zfw, ↓zfc, ↓zfu, ↓zfb, ↓zdj, ↓zcd, ↓zdk, ↓zbl, ↓zdy, ↓zcf, ↓zdz, ↓zcg, ↓zch, ↓zbz, ↓zcc, ↓zdi, ↓zei, ↓zeh, ↓zdx, ↓zdw, ↓zdu, ↓zdq, ↓zea, ↓zcs, ↓zct, ↓zen, ↓zbg, ↓zcv, ↓zcu, ↓zcx, ↓zce, ↓reduceIte, and_self, ↓zbt, ↓zcq, ↓zbs, ↓zbm, ↓zdl, ↓zdf, ↓zby, ↓zec, ↓zed, ↓zee, ↓zef, ↓zdv, ↓zdt, ↓zem, ↓zek, ↓zel, ↓zej, ↓zcl, ↓zeb, ↓zck, ↓zcn, ↓zco, ↓zcm, ↓zbo, ↓zcp, ↓zbn, ↓zbq, ↓zbr, ↓zbp, ↓zal, ↓zak, ↓zai, ↓zba, ↓zaj, ↓zax, ↓zaw, ↓zau, ↓zbe, ↓zav, ↓zad, ↓zac, ↓zaa, ↓zay, ↓zab, ↓zap, ↓zao, ↓zam, ↓zbb, ↓zan, ↓zat, ↓zas, ↓zaq, ↓zbc, ↓zar, ↓zah, ↓zag, ↓zae, ↓zaz, ↓zaf, Bool.not_true, Bool.not_false, Bool.false_eq_true, zbf, zbd, ↓sl0, ↓sl1, ↓sl2, ↓sl3, ↓sl4, ↓sl5, ↓sl6, ↓sl7, ↓sl8, true_and, and_true, zbj, decide_true, decide_false, List.getElem?_cons_zero, List.getElem?_cons_succ, List.set_cons_zero, List.set_cons_succ, hb]
          refine app_v e0' (by simp at ln ⊢; omega) ?_
          refine ⟨r ++ [(a, b)] ++ [(y, y + 1)], by rw [List.map_append, List.map_append]; exact set_at e0', set_ne e1 (by omega), kp.put (Nat.le_refl _), cn.push (by show y < y + 1; omega) (fun q hq => ?_), fun x => ?_, by simp at ln ⊢; omega, fun p hp q hq => ?_, _, rfl⟩
          · rcases List.mem_append.mp hq with z | z
            · have := c3 q z
              have this : q.2 < a := this
              show q.2 < y
              omega
            · rw [List.mem_singleton.mp z]; show b < y; omega
          · rw [List.mem_append, ← mm x, ← in1, memI_append (S := [(y, y + 1)]), memI_one]
          · rcases List.mem_append.mp hp with z | z
            · exact lo p z q (by rw [hdr]; exact List.mem_cons_of_mem _ hq)
            · rw [List.mem_singleton.mp z]; exact later q hq
  · subst eτ
    rw [List.length_map, List.take_length] at mm
    rw [List.length_map] at ln
    simp (maxSteps := 4000000) (disch := decide) only [↓zdg, ↓zbx, ↓FL.then_nx, ↓FL.then_rt, ↓FL.then_bk, ↓FL.then_ct, ↓zbu, ↓zbv, ↓zcz, ↓zew, ↓zdc, ↓zex, ↓zdd, ↓zbw, ↓zev, ↓zeu, ↓zet, ↓zcy, ↓zda, ↓zdb, ↓zde, ↓zey, ↓zes, ↓zbi, ↓zfx, ↓zfy, ↓zci, ↓zcj, ↓zfp, ↓zbh, ↓zfh, ↓zfn, ↓zga, ↓zfl, ↓zdp, ↓zdo, ↓zfm, ↓zff, ↓zfk, ↓zgc, ↓zfd, ↓zgd, ↓zfq, ↓or1, ↓and2, ↓or2, ↓zdr, ↓zfs, ↓zds, ↓zft, ↓zfg, ↓zeg, ↓zcr, ↓zfo, ↓zfj, ↓zgb, ↓zfr, ↓zer, ↓zbk, ↓zge, ↓zfz, ↓zfi, ↓zdm, ↓zfe, ↓zdn, ↓zca, ↓zcb, ↓zfa, ↓zfv, ↓zez, ↓zfw, ↓zfc, ↓zfu, ↓zfb, ↓zdj, ↓zcd, ↓zdk, ↓zbl, ↓zdy, ↓zcf, ↓zdz, ↓zcg, ↓zch, ↓zbz, ↓zcc, ↓zdi, ↓zei, ↓zeh, ↓zdx, ↓zdw, ↓zdu, ↓zdq, ↓zea, ↓zcs, ↓zct, ↓zen, ↓zbg, ↓zcv, ↓zcu, ↓zcx, ↓zce, ↓reduceIte, and_self, ↓zbt, ↓zcq, ↓zbs, ↓zbm, ↓zdl, ↓zdf, ↓zby, ↓zec, ↓zed, ↓zee, ↓zef, ↓zdv, ↓zdt, ↓zem, ↓zek, ↓zel, ↓zej, ↓zcl, ↓zeb, ↓zck, ↓zcn, ↓zco, ↓zcm, ↓zbo, ↓zcp, ↓zbn, ↓zbq, ↓zbr, ↓zbp, ↓zal, ↓zak, ↓zai, ↓zba, ↓zaj, ↓zax, ↓zaw, ↓zau, ↓zbe, ↓zav, ↓zad, ↓zac, ↓zaa, ↓zay, ↓zab, ↓zap, ↓zao, ↓zam, ↓zbb, ↓zan, ↓zat, ↓zas, ↓zaq, ↓zbc, ↓zar, ↓zah, ↓zag, ↓zae, ↓zaz, ↓zaf, Bool.not_true, Bool.not_false, Bool.false_eq_true, zbf, zbd, ↓sl0, ↓sl1, ↓sl2, ↓sl3, ↓sl4, ↓sl5, ↓sl6, ↓sl7, ↓sl8, true_and, and_true, zbj, decide_true, decide_false, List.getElem?_cons_zero, List.getElem?_cons_succ, List.set_cons_zero, List.set_cons_succ, ↓tuple_v (seqOf_ref e0)]
    exact ⟨acc, rfl, cn, fun x => by rw [mm x]; exact sortA_mem, by omega, kp⟩
end DL

set_option Elab.async false
set_option linter.all false
set_option maxRecDepth 100000
set_option maxHeartbeats 4000000
namespace DL
open PySem PySem.Spec PyProof.Rows L2
theorem scalar_rank_e (k : Key) (h : Hd) : fF5 [kD k] h = .ok (rkD k) h := Res.sat_eq (by
  refine runP_v (σ := [some (kD k)]) (by rfl) (by rfl) ?_
  unfold bB5
  cases k with
  | inl i => simp (maxSteps := 4000000) (disch := decide) only [↓zdg, ↓zbx, ↓FL.then_nx, ↓FL.then_rt, ↓FL.then_bk, ↓FL.then_ct, ↓zbu, ↓zbv, ↓zcz, ↓zew, ↓zdc, ↓zex, ↓zdd, ↓zbw, ↓zev, ↓zeu, ↓zet, ↓zcy, ↓zda, ↓zdb, ↓zde, ↓zey, ↓zes, ↓zbi, ↓zfx, ↓zfy, ↓zci, ↓zcj, ↓zfp, ↓zbh, ↓zfh, ↓zfn, ↓zga, ↓zfl, ↓zdp, ↓zdo, ↓zfm, ↓zff, ↓zfk, ↓zgc, ↓zfd, ↓zgd, ↓zfq, ↓or1, ↓and2, ↓or2, ↓zdr, ↓zfs, ↓zds, ↓zft, ↓zfg, ↓zeg, ↓zcr, ↓zfo, ↓zfj, ↓zgb, ↓zfr, ↓zer, ↓zbk, ↓zge, ↓zfz, ↓zfi, ↓zdm, ↓zfe, ↓zdn, ↓zca, ↓zcb, ↓zfa, ↓zfv, ↓zez, ↓zfw, ↓zfc, ↓zfu, ↓zfb, ↓zdj, ↓zcd, ↓zdk, ↓zbl, ↓zdy, ↓zcf, ↓zdz, ↓zcg, ↓zch, ↓zbz, ↓zcc, ↓zdi, ↓zei, ↓zeh, ↓zdx, ↓zdw, ↓zdu, ↓zdq, ↓zea, ↓zcs, ↓zct, ↓zen, ↓zbg, ↓zcv, ↓zcu, ↓zcx, ↓zce, ↓reduceIte, and_self, ↓zbt, ↓zcq, ↓zbs, ↓zbm, ↓zdl, ↓zdf, ↓zby, ↓zec, ↓zed, ↓zee, ↓zef, ↓zdv, ↓zdt, ↓zem, ↓zek, ↓zel, ↓zej, ↓zcl, ↓zeb, ↓zck, ↓zcn, ↓zco, ↓zcm, ↓zbo, ↓zcp, ↓zbn, ↓zbq, ↓zbr, ↓zbp, ↓zal, ↓zak, ↓zai, ↓zba, ↓zaj, ↓zax, ↓zaw, ↓zau, ↓zbe, ↓zav, ↓zad, ↓zac, ↓zaa, ↓zay, ↓zab, ↓zap, ↓zao, ↓zam, ↓zbb, ↓zan, ↓zat, ↓zas, ↓zaq, ↓zbc, ↓zar, ↓zah, ↓zag, ↓zae, ↓zaz, ↓zaf, Bool.not_true, Bool.not_false, Bool.false_eq_true, zbf, zbd, ↓sl0, ↓sl1, ↓sl2, ↓sl3, ↓sl4, ↓sl5, ↓sl6, ↓sl7, ↓sl8, true_and, and_true, zbj, decide_true, decide_false, List.getElem?_cons_zero, List.getElem?_cons_succ, List.set_cons_zero, List.set_cons_succ, kD]; rfl
  | inr x => simp (maxSteps := 4000000) (disch := decide) only [↓zdg, ↓zbx, ↓FL.then_nx, ↓FL.then_rt, ↓FL.then_bk, ↓FL.then_ct, ↓zbu, ↓zbv, ↓zcz, ↓zew, ↓zdc, ↓zex, ↓zdd, ↓zbw, ↓zev, ↓zeu, ↓zet, ↓zcy, ↓zda, ↓zdb, ↓zde, ↓zey, ↓zes, ↓zbi, ↓zfx, ↓zfy, ↓zci, ↓zcj, ↓zfp, ↓zbh, ↓zfh, ↓zfn, ↓zga, ↓zfl, ↓zdp, ↓zdo, ↓zfm, ↓zff, ↓zfk, ↓zgc, ↓zfd, ↓zgd, ↓zfq, ↓or1, ↓and2, ↓or2, ↓zdr, ↓zfs, ↓zds, ↓zft, ↓zfg, ↓zeg, ↓zcr, ↓zfo, ↓zfj, ↓zgb, ↓zfr, ↓zer, ↓zbk, ↓zge, ↓zfz, ↓zfi, ↓zdm, ↓zfe, ↓zdn, ↓zca, ↓zcb, ↓zfa, ↓zfv, ↓zez, ↓zfw, ↓zfc, ↓zfu, ↓zfb, ↓zdj, ↓zcd, ↓zdk, ↓zbl, ↓zdy, ↓zcf, ↓zdz, ↓zcg, ↓zch, ↓zbz, ↓zcc, ↓zdi, ↓zei, ↓zeh, ↓zdx, ↓zdw, ↓zdu, ↓zdq, ↓zea, ↓zcs, ↓zct, ↓zen, ↓zbg, ↓zcv, ↓zcu, ↓zcx, ↓zce, ↓reduceIte, and_self, ↓zbt, ↓zcq, ↓zbs, ↓zbm, ↓zdl, ↓zdf, ↓zby, ↓zec, ↓zed, ↓zee, ↓zef, ↓zdv, ↓zdt, ↓zem, ↓zek, ↓zel, ↓zej, ↓zcl, ↓zeb, ↓zck, ↓zcn, ↓zco, ↓zcm, ↓zbo, ↓zcp, ↓zbn, ↓zbq, ↓zbr, ↓zbp, ↓zal, ↓zak, ↓zai, ↓zba, ↓zaj, ↓zax, ↓zaw, ↓zau, ↓zbe, ↓zav, ↓zad, ↓zac, ↓zaa, ↓zay, ↓zab, ↓zap, ↓zao, ↓zam, ↓zbb, ↓zan, ↓zat, ↓zas, ↓zaq, ↓zbc, ↓zar, ↓zah, ↓zag, ↓zae, ↓zaz, ↓zaf, Bool.not_true, Bool.not_false, Bool.false_eq_true, zbf, zbd, ↓sl0, ↓sl1, ↓sl2, ↓sl3, ↓sl4, ↓sl5, ↓sl6, ↓sl7, ↓sl8, true_and, and_true, zbj, decide_true, decide_false, List.getElem?_cons_zero, List.getElem?_cons_succ, List.set_cons_zero, List.set_cons_succ, kD]; rfl)
theorem entry_rank_e (k : Key) (l : List D) (h : Hd) : fF6 [.tup (kD k :: l)] h = .ok (rkD k) h := Res.sat_eq (by
  refine runP_v (σ := [some (.tup (kD k :: l))]) (by rfl) (by rfl) ?_
  unfold bB6
  simp (maxSteps := 4000000) (disch := decide) only [↓zdg, ↓zbx, ↓FL.then_nx, ↓FL.then_rt, ↓FL.then_bk, ↓FL.then_ct, ↓zbu, ↓zbv, ↓zcz, ↓zew, ↓zdc, ↓zex, ↓zdd, ↓zbw, ↓zev, ↓zeu, ↓zet, ↓zcy, ↓zda, ↓zdb, ↓zde, ↓zey, ↓zes, ↓zbi, ↓zfx, ↓zfy, ↓zci, ↓zcj, ↓zfp, ↓zbh, ↓zfh, ↓zfn, ↓zga, ↓zfl, ↓zdp, ↓zdo, ↓zfm, ↓zff, ↓zfk, ↓zgc, ↓zfd, ↓zgd, ↓zfq, ↓or1, ↓and2, ↓or2, ↓zdr, ↓zfs, ↓zds, ↓zft, ↓zfg, ↓zeg, ↓zcr, ↓zfo, ↓zfj, ↓zgb, ↓zfr, ↓zer, ↓zbk, ↓zge, ↓zfz, ↓zfi, ↓zdm, ↓zfe, ↓zdn, ↓zca, ↓zcb, ↓zfa, ↓zfv, ↓zez, ↓zfw, ↓zfc, ↓zfu, ↓zfb, ↓zdj, ↓zcd, ↓zdk, ↓zbl, ↓zdy, ↓zcf, ↓zdz, ↓zcg, ↓zch, ↓zbz, ↓zcc, ↓zdi, ↓zei, ↓zeh, ↓zdx, ↓zdw, ↓zdu, ↓zdq, ↓zea, ↓zcs, ↓zct, ↓zen, ↓zbg, ↓zcv, ↓zcu, ↓zcx, ↓zce, ↓reduceIte, and_self, ↓zbt, ↓zcq, ↓zbs, ↓zbm, ↓zdl, ↓zdf, ↓zby, ↓zec, ↓zed, ↓zee, ↓zef, ↓zdv, ↓zdt, ↓zem, ↓zek, ↓zel, ↓zej, ↓zcl, ↓zeb, ↓zck, ↓zcn, ↓zco, ↓zcm, ↓zbo, ↓zcp, ↓zbn, ↓zbq, ↓zbr, ↓zbp, ↓zal, ↓zak, ↓zai, ↓zba, ↓zaj, ↓zax, ↓zaw, ↓zau, ↓zbe, ↓zav, ↓zad, ↓zac, ↓zaa, ↓zay, ↓zab, ↓zap, ↓zao, ↓zam, ↓zbb, ↓zan, ↓zat, ↓zas, ↓zaq, ↓zbc, ↓zar, ↓zah, ↓zag, ↓zae, ↓zaz, ↓zaf, Bool.not_true, Bool.not_false, Bool.false_eq_true, zbf, zbd, ↓sl0, ↓sl1, ↓sl2, ↓sl3, ↓sl4, ↓sl5, ↓sl6, ↓sl7, ↓sl8, true_and, and_true, zbj, decide_true, decide_false, List.getElem?_cons_zero, List.getElem?_cons_succ, List.set_cons_zero, List.set_cons_succ, tt6_5, ↓v_is (scalar_rank_e k h)])
theorem check_count_e {n : Nat} (hn : n ≤ 2000) (h : Hd) : fF0 [.int n] h = .ok .non h := Res.sat_eq (by
  refine runP_v (σ := [some (.int n)]) (by rfl) (by rfl) ?_
  unfold bB0
  have e : decide ((2000 : Int) < (n : Int)) = false := decide_eq_false (by omega)
  simp (maxSteps := 4000000) (disch := decide) only [↓zdg, ↓zbx, ↓FL.then_nx, ↓FL.then_rt, ↓FL.then_bk, ↓FL.then_ct, ↓zbu, ↓zbv, ↓zcz, ↓zew, ↓zdc, ↓zex, ↓zdd, ↓zbw, ↓zev, ↓zeu, ↓zet, ↓zcy, ↓zda, ↓zdb, ↓zde, ↓zey, ↓zes, ↓zbi, ↓zfx, ↓zfy, ↓zci, ↓zcj, ↓zfp, ↓zbh, ↓zfh, ↓zfn, ↓zga, ↓zfl, ↓zdp, ↓zdo, ↓zfm, ↓zff, ↓zfk, ↓zgc, ↓zfd, ↓zgd, ↓zfq, ↓or1, ↓and2, ↓or2, ↓zdr, ↓zfs, ↓zds, ↓zft, ↓zfg, ↓zeg, ↓zcr, ↓zfo, ↓zfj, ↓zgb, ↓zfr, ↓zer, ↓zbk, ↓zge, ↓zfz, ↓zfi, ↓zdm, ↓zfe, ↓zdn, ↓zca, ↓zcb, ↓zfa, ↓zfv, ↓zez, ↓zfw, ↓zfc, ↓zfu, ↓zfb, ↓zdj, ↓zcd, ↓zdk, ↓zbl, ↓zdy, ↓zcf, ↓zdz, ↓zcg, ↓zch, ↓zbz, ↓zcc, ↓zdi, ↓zei, ↓zeh, ↓zdx, ↓zdw, ↓zdu, ↓zdq, ↓zea, ↓zcs, ↓zct, ↓zen, ↓zbg, ↓zcv, ↓zcu, ↓zcx, ↓zce, ↓reduceIte, and_self, ↓zbt, ↓zcq, ↓zbs, ↓zbm, ↓zdl, ↓zdf, ↓zby, ↓zec, ↓zed, ↓zee, ↓zef, ↓zdv, ↓zdt, ↓zem, ↓zek, ↓zel, ↓zej, ↓zcl, ↓zeb, ↓zck, ↓zcn, ↓zco, ↓zcm, ↓zbo, ↓zcp, ↓zbn, ↓zbq, ↓zbr, ↓zbp, ↓zal, ↓zak, ↓zai, ↓zba, ↓zaj, ↓zax, ↓zaw, ↓zau, ↓zbe, ↓zav, ↓zad, ↓zac, ↓zaa, ↓zay, ↓zab, ↓zap, ↓zao, ↓zam, ↓zbb, ↓zan, ↓zat, ↓zas, ↓zaq, ↓zbc, ↓zar, ↓zah, ↓zag, ↓zae, ↓zaz, ↓zaf, Bool.not_true, Bool.not_false, Bool.false_eq_true, zbf, zbd, ↓sl0, ↓sl1, ↓sl2, ↓sl3, ↓sl4, ↓sl5, ↓sl6, ↓sl7, ↓sl8, true_and, and_true, zbj, decide_true, decide_false, List.getElem?_cons_zero, List.getElem?_cons_succ, List.set_cons_zero, List.set_cons_succ, e])
theorem within_bounds_e {ds : List D} (hn : ds.length ≤ 2000) (h : Hd) : fF1 [.tup ds] h = .ok (.tup ds) h := Res.sat_eq (by
  refine runP_v (σ := [some (.tup ds)]) (by rfl) (by rfl) ?_
  unfold bB1
  simp (maxSteps := 4000000) (disch := decide) only [↓zdg, ↓zbx, ↓FL.then_nx, ↓FL.then_rt, ↓FL.then_bk, ↓FL.then_ct, ↓zbu, ↓zbv, ↓zcz, ↓zew, ↓zdc, ↓zex, ↓zdd, ↓zbw, ↓zev, ↓zeu, ↓zet, ↓zcy, ↓zda, ↓zdb, ↓zde, ↓zey, ↓zes, ↓zbi, ↓zfx, ↓zfy, ↓zci, ↓zcj, ↓zfp, ↓zbh, ↓zfh, ↓zfn, ↓zga, ↓zfl, ↓zdp, ↓zdo, ↓zfm, ↓zff, ↓zfk, ↓zgc, ↓zfd, ↓zgd, ↓zfq, ↓or1, ↓and2, ↓or2, ↓zdr, ↓zfs, ↓zds, ↓zft, ↓zfg, ↓zeg, ↓zcr, ↓zfo, ↓zfj, ↓zgb, ↓zfr, ↓zer, ↓zbk, ↓zge, ↓zfz, ↓zfi, ↓zdm, ↓zfe, ↓zdn, ↓zca, ↓zcb, ↓zfa, ↓zfv, ↓zez, ↓zfw, ↓zfc, ↓zfu, ↓zfb, ↓zdj, ↓zcd, ↓zdk, ↓zbl, ↓zdy, ↓zcf, ↓zdz, ↓zcg, ↓zch, ↓zbz, ↓zcc, ↓zdi, ↓zei, ↓zeh, ↓zdx, ↓zdw, ↓zdu, ↓zdq, ↓zea, ↓zcs, ↓zct, ↓zen, ↓zbg, ↓zcv, ↓zcu, ↓zcx, ↓zce, ↓reduceIte, and_self, ↓zbt, ↓zcq, ↓zbs, ↓zbm, ↓zdl, ↓zdf, ↓zby, ↓zec, ↓zed, ↓zee, ↓zef, ↓zdv, ↓zdt, ↓zem, ↓zek, ↓zel, ↓zej, ↓zcl, ↓zeb, ↓zck, ↓zcn, ↓zco, ↓zcm, ↓zbo, ↓zcp, ↓zbn, ↓zbq, ↓zbr, ↓zbp, ↓zal, ↓zak, ↓zai, ↓zba, ↓zaj, ↓zax, ↓zaw, ↓zau, ↓zbe, ↓zav, ↓zad, ↓zac, ↓zaa, ↓zay, ↓zab, ↓zap, ↓zao, ↓zam, ↓zbb, ↓zan, ↓zat, ↓zas, ↓zaq, ↓zbc, ↓zar, ↓zah, ↓zag, ↓zae, ↓zaz, ↓zaf, Bool.not_true, Bool.not_false, Bool.false_eq_true, zbf, zbd, ↓sl0, ↓sl1, ↓sl2, ↓sl3, ↓sl4, ↓sl5, ↓sl6, ↓sl7, ↓sl8, true_and, and_true, zbj, decide_true, decide_false, List.getElem?_cons_zero, List.getElem?_cons_succ, List.set_cons_zero, List.set_cons_succ, tt1_0, ↓v_is (check_count_e hn h)])
theorem key_some (k : Key) : keyS (kD k) = some k := keyS_kD k
theorem map_of_v {E : XP} {P : D → Hd → Prop} {es : List (Key × Key)} {h : Hd} (hl : es.length ≤ 1000) (q : ∀ h', Kp h h' → P (.tup ((srtK (tabOf es)).map prD)) h') : vC (E := E) fF7 [.tup (es.map prD)] h P := by
  refine vC.mono (P := fun d h' => d = .tup ((srtK (tabOf es)).map prD) ∧ Kp h h') ?_ fun d h' ⟨e, k⟩ => e ▸ q h' k
  refine runP_v (σ := [some (.tup (es.map prD)), none, none, none]) (by rfl) (by rfl) ?_
  unfold bB7
  simp (maxSteps := 4000000) (disch := decide) only [↓zdg, ↓zbx, ↓FL.then_nx, ↓FL.then_rt, ↓FL.then_bk, ↓FL.then_ct, ↓zbu, ↓zbv, ↓zcz, ↓zew, ↓zdc, ↓zex, ↓zdd, ↓zbw, ↓zev, ↓zeu, ↓zet, ↓zcy, ↓zda, ↓zdb, ↓zde, ↓zey, ↓zes, ↓zbi, ↓zfx, ↓zfy, ↓zci, ↓zcj, ↓zfp, ↓zbh, ↓zfh, ↓zfn, ↓zga, ↓zfl, ↓zdp, ↓zdo, ↓zfm, ↓zff, ↓zfk, ↓zgc, ↓zfd, ↓zgd, ↓zfq, ↓or1, ↓and2, ↓or2, ↓zdr, ↓zfs, ↓zds, ↓zft, ↓zfg, ↓zeg, ↓zcr, ↓zfo, ↓zfj, ↓zgb, ↓zfr, ↓zer, ↓zbk, ↓zge, ↓zfz, ↓zfi, ↓zdm, ↓zfe, ↓zdn, ↓zca, ↓zcb, ↓zfa, ↓zfv, ↓zez, ↓zfw, ↓zfc, ↓zfu, ↓zfb, ↓zdj, ↓zcd, ↓zdk, ↓zbl, ↓zdy, ↓zcf, ↓zdz, ↓zcg, ↓zch, ↓zbz, ↓zcc, ↓zdi, ↓zei, ↓zeh, ↓zdx, ↓zdw, ↓zdu, ↓zdq, ↓zea, ↓zcs, ↓zct, ↓zen, ↓zbg, ↓zcv, ↓zcu, ↓zcx, ↓zce, ↓reduceIte, and_self, ↓zbt, ↓zcq, ↓zbs, ↓zbm, ↓zdl, ↓zdf, ↓zby, ↓zec, ↓zed, ↓zee, ↓zef, ↓zdv, ↓zdt, ↓zem, ↓zek, ↓zel, ↓zej, ↓zcl, ↓zeb, ↓zck, ↓zcn, ↓zco, ↓zcm, ↓zbo, ↓zcp, ↓zbn, ↓zbq, ↓zbr, ↓zbp, ↓zal, ↓zak, ↓zai, ↓zba, ↓zaj, ↓zax, ↓zaw, ↓zau, ↓zbe, ↓zav, ↓zad, ↓zac, ↓zaa, ↓zay, ↓zab, ↓zap, ↓zao, ↓zam, ↓zbb, ↓zan, ↓zat, ↓zas, ↓zaq, ↓zbc, ↓zar, ↓zah, ↓zag, ↓zae, ↓zaz, ↓zaf, Bool.not_true, Bool.not_false, Bool.false_eq_true, zbf, zbd, ↓sl0, ↓sl1, ↓sl2, ↓sl3, ↓sl4, ↓sl5, ↓sl6, ↓sl7, ↓sl8, true_and, and_true, zbj, decide_true, decide_false, List.getElem?_cons_zero, List.getElem?_cons_succ, List.set_cons_zero, List.set_cons_succ]
  refine for_sat (fun i τ h' => h' = h ++ [.dct (tabD kD (tabOf (es.take i)))] ∧ ∃ z2 z3, τ = [some (.tup (es.map prD)), some (.ref h.length), z2, z3]) ⟨rfl, _, _, rfl⟩ (fun _ _ _ _ _ _ z => nomatch z) (fun i τ h' d hd ⟨eh, z2, z3, eτ⟩ => ?_) fun τ h' ⟨eh, z2, z3, eτ⟩ => ?_
  · subst eh eτ
    rw [List.getElem?_map] at hd
    cases ex : es[i]? with
    | none => rw [ex] at hd; cases hd
    | some p =>
      rw [ex] at hd
      cases hd
      refine ⟨_, rfl, ?_⟩
      have hz : (tabD kD (tabOf (es.take i))).length < sizeLine := by
        unfold tabD
        rw [List.length_map, sizeLine_eq]
        have := tabOf_len (es.take i)
        rw [List.length_take] at this
        omega
      simp (maxSteps := 4000000) (disch := decide) only [↓zdg, ↓zbx, ↓FL.then_nx, ↓FL.then_rt, ↓FL.then_bk, ↓FL.then_ct, ↓zbu, ↓zbv, ↓zcz, ↓zew, ↓zdc, ↓zex, ↓zdd, ↓zbw, ↓zev, ↓zeu, ↓zet, ↓zcy, ↓zda, ↓zdb, ↓zde, ↓zey, ↓zes, ↓zbi, ↓zfx, ↓zfy, ↓zci, ↓zcj, ↓zfp, ↓zbh, ↓zfh, ↓zfn, ↓zga, ↓zfl, ↓zdp, ↓zdo, ↓zfm, ↓zff, ↓zfk, ↓zgc, ↓zfd, ↓zgd, ↓zfq, ↓or1, ↓and2, ↓or2, ↓zdr, ↓zfs, ↓zds, ↓zft, ↓zfg, ↓zeg, ↓zcr, ↓zfo, ↓zfj, ↓zgb, ↓zfr, ↓zer, ↓zbk, ↓zge, ↓zfz, ↓zfi, ↓zdm, ↓zfe, ↓zdn, ↓zca, ↓zcb, ↓zfa, ↓zfv, ↓zez, ↓zfw, ↓zfc, ↓zfu, ↓zfb, ↓zdj, ↓zcd, ↓zdk, ↓zbl, ↓zdy, ↓zcf, ↓zdz, ↓zcg, ↓zch, ↓zbz, ↓zcc, ↓zdi, ↓zei, ↓zeh, ↓zdx, ↓zdw, ↓zdu, ↓zdq, ↓zea, ↓zcs, ↓zct, ↓zen, ↓zbg, ↓zcv, ↓zcu, ↓zcx, ↓zce, ↓reduceIte, and_self, ↓zbt, ↓zcq, ↓zbs, ↓zbm, ↓zdl, ↓zdf, ↓zby, ↓zec, ↓zed, ↓zee, ↓zef, ↓zdv, ↓zdt, ↓zem, ↓zek, ↓zel, ↓zej, ↓zcl, ↓zeb, ↓zck, ↓zcn, ↓zco, ↓zcm, ↓zbo, ↓zcp, ↓zbn, ↓zbq, ↓zbr, ↓zbp, ↓zal, ↓zak, ↓zai, ↓zba, ↓zaj, ↓zax, ↓zaw, ↓zau, ↓zbe, ↓zav, ↓zad, ↓zac, ↓zaa, ↓zay, ↓zab, ↓zap, ↓zao, ↓zam, ↓zbb, ↓zan, ↓zat, ↓zas, ↓zaq, ↓zbc, ↓zar, ↓zah, ↓zag, ↓zae, ↓zaz, ↓zaf, Bool.not_true, Bool.not_false, Bool.false_eq_true, zbf, zbd, ↓sl0, ↓sl1, ↓sl2, ↓sl3, ↓sl4, ↓sl5, ↓sl6, ↓sl7, ↓sl8, true_and, and_true, zbj, decide_true, decide_false, List.getElem?_cons_zero, List.getElem?_cons_succ, List.set_cons_zero, List.set_cons_succ, prD, setD_dk app_new (keyS_kD p.1) hz]
      refine ⟨?_, _, _, rfl⟩
      rw [set_last, dput_tab, take_snoc ex, tabOf_snoc]
  · subst eh eτ
    have hlen : (es.map prD).length = es.length := List.length_map ..
    rw [hlen, List.take_length]
    simp (maxSteps := 4000000) (disch := decide) only [↓zdg, ↓zbx, ↓FL.then_nx, ↓FL.then_rt, ↓FL.then_bk, ↓FL.then_ct, ↓zbu, ↓zbv, ↓zcz, ↓zew, ↓zdc, ↓zex, ↓zdd, ↓zbw, ↓zev, ↓zeu, ↓zet, ↓zcy, ↓zda, ↓zdb, ↓zde, ↓zey, ↓zes, ↓zbi, ↓zfx, ↓zfy, ↓zci, ↓zcj, ↓zfp, ↓zbh, ↓zfh, ↓zfn, ↓zga, ↓zfl, ↓zdp, ↓zdo, ↓zfm, ↓zff, ↓zfk, ↓zgc, ↓zfd, ↓zgd, ↓zfq, ↓or1, ↓and2, ↓or2, ↓zdr, ↓zfs, ↓zds, ↓zft, ↓zfg, ↓zeg, ↓zcr, ↓zfo, ↓zfj, ↓zgb, ↓zfr, ↓zer, ↓zbk, ↓zge, ↓zfz, ↓zfi, ↓zdm, ↓zfe, ↓zdn, ↓zca, ↓zcb, ↓zfa, ↓zfv, ↓zez, ↓zfw, ↓zfc, ↓zfu, ↓zfb, ↓zdj, ↓zcd, ↓zdk, ↓zbl, ↓zdy, ↓zcf, ↓zdz, ↓zcg, ↓zch, ↓zbz, ↓zcc, ↓zdi, ↓zei, ↓zeh, ↓zdx, ↓zdw, ↓zdu, ↓zdq, ↓zea, ↓zcs, ↓zct, ↓zen, ↓zbg, ↓zcv, ↓zcu, ↓zcx, ↓zce, ↓reduceIte, and_self, ↓zbt, ↓zcq, ↓zbs, ↓zbm, ↓zdl, ↓zdf, ↓zby, ↓zec, ↓zed, ↓zee, ↓zef, ↓zdv, ↓zdt, ↓zem, ↓zek, ↓zel, ↓zej, ↓zcl, ↓zeb, ↓zck, ↓zcn, ↓zco, ↓zcm, ↓zbo, ↓zcp, ↓zbn, ↓zbq, ↓zbr, ↓zbp, ↓zal, ↓zak, ↓zai, ↓zba, ↓zaj, ↓zax, ↓zaw, ↓zau, ↓zbe, ↓zav, ↓zad, ↓zac, ↓zaa, ↓zay, ↓zab, ↓zap, ↓zao, ↓zam, ↓zbb, ↓zan, ↓zat, ↓zas, ↓zaq, ↓zbc, ↓zar, ↓zah, ↓zag, ↓zae, ↓zaz, ↓zaf, Bool.not_true, Bool.not_false, Bool.false_eq_true, zbf, zbd, ↓sl0, ↓sl1, ↓sl2, ↓sl3, ↓sl4, ↓sl5, ↓sl6, ↓sl7, ↓sl8, true_and, and_true, zbj, decide_true, decide_false, List.getElem?_cons_zero, List.getElem?_cons_succ, List.set_cons_zero, List.set_cons_succ, tt7_1, tt7_6]
    have src : srcOf true (.ref h.length) (h ++ [.dct (tabD kD (tabOf es))]) = some ((tabOf es).map prD) := by
      simp only [srcOf, app_new]
      unfold tabD
      rw [List.map_map]; rfl
    have nl := tabOf_len es
    have km : ((tabOf es).map prD).map (fun d => match d with | .tup (k :: _) => (match keyS k with | some q => rkD q | none => .non) | _ => .non) = (tabOf es).map fun p => rkD p.1 := by
      rw [List.map_map]
      refine List.map_congr_left fun p _ => ?_
      show (match keyS (kD p.1) with | some q => rkD q | none => .non) = _
      rw [keyS_kD]
    refine sortR_v (kf := fun d => match d with | .tup (k :: _) => (match keyS k with | some q => rkD q | none => .non) | _ => .non) src (by rw [List.length_map]; omega) (fun d hd => ?_) (by rw [km]; exact so_rk) ?_
    · obtain ⟨p, _, rfl⟩ := List.mem_map.mp hd
      show fF6 [.tup (kD p.1 :: [kD p.2])] _ = .ok (match keyS (kD p.1) with | some q => rkD q | none => .non) _
      rw [keyS_kD]
      exact entry_rank_e p.1 _ _
    rw [km, sortB_map (f := prD) (kf := fun p : Key × Key => rkD p.1) (lt := fun a b => ltK a.1 b.1) fun a _ b _ => rk_lt a.1 b.1]
    have hw : ((srtK (tabOf es)).map prD).length ≤ 2000 := by
      rw [List.length_map]; unfold srtK; rw [sortA_len]; omega
    simp (maxSteps := 4000000) (disch := decide) only [↓zdg, ↓zbx, ↓FL.then_nx, ↓FL.then_rt, ↓FL.then_bk, ↓FL.then_ct, ↓zbu, ↓zbv, ↓zcz, ↓zew, ↓zdc, ↓zex, ↓zdd, ↓zbw, ↓zev, ↓zeu, ↓zet, ↓zcy, ↓zda, ↓zdb, ↓zde, ↓zey, ↓zes, ↓zbi, ↓zfx, ↓zfy, ↓zci, ↓zcj, ↓zfp, ↓zbh, ↓zfh, ↓zfn, ↓zga, ↓zfl, ↓zdp, ↓zdo, ↓zfm, ↓zff, ↓zfk, ↓zgc, ↓zfd, ↓zgd, ↓zfq, ↓or1, ↓and2, ↓or2, ↓zdr, ↓zfs, ↓zds, ↓zft, ↓zfg, ↓zeg, ↓zcr, ↓zfo, ↓zfj, ↓zgb, ↓zfr, ↓zer, ↓zbk, ↓zge, ↓zfz, ↓zfi, ↓zdm, ↓zfe, ↓zdn, ↓zca, ↓zcb, ↓zfa, ↓zfv, ↓zez, ↓zfw, ↓zfc, ↓zfu, ↓zfb, ↓zdj, ↓zcd, ↓zdk, ↓zbl, ↓zdy, ↓zcf, ↓zdz, ↓zcg, ↓zch, ↓zbz, ↓zcc, ↓zdi, ↓zei, ↓zeh, ↓zdx, ↓zdw, ↓zdu, ↓zdq, ↓zea, ↓zcs, ↓zct, ↓zen, ↓zbg, ↓zcv, ↓zcu, ↓zcx, ↓zce, ↓reduceIte, and_self, ↓zbt, ↓zcq, ↓zbs, ↓zbm, ↓zdl, ↓zdf, ↓zby, ↓zec, ↓zed, ↓zee, ↓zef, ↓zdv, ↓zdt, ↓zem, ↓zek, ↓zel, ↓zej, ↓zcl, ↓zeb, ↓zck, ↓zcn, ↓zco, ↓zcm, ↓zbo, ↓zcp, ↓zbn, ↓zbq, ↓zbr, ↓zbp, ↓zal, ↓zak, ↓zai, ↓zba, ↓zaj, ↓zax, ↓zaw, ↓zau, ↓zbe, ↓zav, ↓zad, ↓zac, ↓zaa, ↓zay, ↓zab, ↓zap, ↓zao, ↓zam, ↓zbb, ↓zan, ↓zat, ↓zas, ↓zaq, ↓zbc, ↓zar, ↓zah, ↓zag, ↓zae, ↓zaz, ↓zaf, Bool.not_true, Bool.not_false, Bool.false_eq_true, zbf, zbd, ↓sl0, ↓sl1, ↓sl2, ↓sl3, ↓sl4, ↓sl5, ↓sl6, ↓sl7, ↓sl8, true_and, and_true, zbj, decide_true, decide_false, List.getElem?_cons_zero, List.getElem?_cons_succ, List.set_cons_zero, List.set_cons_succ, ↓tuple_v (seqOf_ref app_new)]
    refine (v_is (within_bounds_e hw _)).mpr ?_
    exact ⟨rfl, Kp.more .app⟩
theorem queue_of_v {E : XP} {P : D → Hd → Prop} {es : List (Int × Key)} {h : Hd} (hl : es.length ≤ 1000) (q : ∀ h', Kp h h' → P (.tup ((srtQ es).map qiD)) h') : vC (E := E) fF8 [.tup (es.map qiD)] h P := by
  refine vC.mono (P := fun d h' => d = .tup ((srtQ es).map qiD) ∧ Kp h h') ?_ fun d h' ⟨e, k⟩ => e ▸ q h' k
  refine runP_v (σ := [some (.tup (es.map qiD))]) (by rfl) (by rfl) ?_
  unfold bB8
  simp (maxSteps := 4000000) (disch := decide) only [↓zdg, ↓zbx, ↓FL.then_nx, ↓FL.then_rt, ↓FL.then_bk, ↓FL.then_ct, ↓zbu, ↓zbv, ↓zcz, ↓zew, ↓zdc, ↓zex, ↓zdd, ↓zbw, ↓zev, ↓zeu, ↓zet, ↓zcy, ↓zda, ↓zdb, ↓zde, ↓zey, ↓zes, ↓zbi, ↓zfx, ↓zfy, ↓zci, ↓zcj, ↓zfp, ↓zbh, ↓zfh, ↓zfn, ↓zga, ↓zfl, ↓zdp, ↓zdo, ↓zfm, ↓zff, ↓zfk, ↓zgc, ↓zfd, ↓zgd, ↓zfq, ↓or1, ↓and2, ↓or2, ↓zdr, ↓zfs, ↓zds, ↓zft, ↓zfg, ↓zeg, ↓zcr, ↓zfo, ↓zfj, ↓zgb, ↓zfr, ↓zer, ↓zbk, ↓zge, ↓zfz, ↓zfi, ↓zdm, ↓zfe, ↓zdn, ↓zca, ↓zcb, ↓zfa, ↓zfv, ↓zez, ↓zfw, ↓zfc, ↓zfu, ↓zfb, ↓zdj, ↓zcd, ↓zdk, ↓zbl, ↓zdy, ↓zcf, ↓zdz, ↓zcg, ↓zch, ↓zbz, ↓zcc, ↓zdi, ↓zei, ↓zeh, ↓zdx, ↓zdw, ↓zdu, ↓zdq, ↓zea, ↓zcs, ↓zct, ↓zen, ↓zbg, ↓zcv, ↓zcu, ↓zcx, ↓zce, ↓reduceIte, and_self, ↓zbt, ↓zcq, ↓zbs, ↓zbm, ↓zdl, ↓zdf, ↓zby, ↓zec, ↓zed, ↓zee, ↓zef, ↓zdv, ↓zdt, ↓zem, ↓zek, ↓zel, ↓zej, ↓zcl, ↓zeb, ↓zck, ↓zcn, ↓zco, ↓zcm, ↓zbo, ↓zcp, ↓zbn, ↓zbq, ↓zbr, ↓zbp, ↓zal, ↓zak, ↓zai, ↓zba, ↓zaj, ↓zax, ↓zaw, ↓zau, ↓zbe, ↓zav, ↓zad, ↓zac, ↓zaa, ↓zay, ↓zab, ↓zap, ↓zao, ↓zam, ↓zbb, ↓zan, ↓zat, ↓zas, ↓zaq, ↓zbc, ↓zar, ↓zah, ↓zag, ↓zae, ↓zaz, ↓zaf, Bool.not_true, Bool.not_false, Bool.false_eq_true, zbf, zbd, ↓sl0, ↓sl1, ↓sl2, ↓sl3, ↓sl4, ↓sl5, ↓sl6, ↓sl7, ↓sl8, true_and, and_true, zbj, decide_true, decide_false, List.getElem?_cons_zero, List.getElem?_cons_succ, List.set_cons_zero, List.set_cons_succ, tt8_1]
  refine sortR_v (ds := es.map qiD) (kf := fstD) rfl (by rw [List.length_map]; omega) (fun d hd => ?_) (by rw [map_fst]; exact so_ints) ?_
  · obtain ⟨p, _, rfl⟩ := List.mem_map.mp hd
    refine Res.sat_eq ?_
    show (((evP tT8 ((IE.var 0).ix (IE.int 0))).fst [some (qiD p)] h)).sat _
    refine (vE_def (τ := [some (qiD p)])).mp ?_
    simp (maxSteps := 4000000) (disch := decide) only [↓zdg, ↓zbx, ↓FL.then_nx, ↓FL.then_rt, ↓FL.then_bk, ↓FL.then_ct, ↓zbu, ↓zbv, ↓zcz, ↓zew, ↓zdc, ↓zex, ↓zdd, ↓zbw, ↓zev, ↓zeu, ↓zet, ↓zcy, ↓zda, ↓zdb, ↓zde, ↓zey, ↓zes, ↓zbi, ↓zfx, ↓zfy, ↓zci, ↓zcj, ↓zfp, ↓zbh, ↓zfh, ↓zfn, ↓zga, ↓zfl, ↓zdp, ↓zdo, ↓zfm, ↓zff, ↓zfk, ↓zgc, ↓zfd, ↓zgd, ↓zfq, ↓or1, ↓and2, ↓or2, ↓zdr, ↓zfs, ↓zds, ↓zft, ↓zfg, ↓zeg, ↓zcr, ↓zfo, ↓zfj, ↓zgb, ↓zfr, ↓zer, ↓zbk, ↓zge, ↓zfz, ↓zfi, ↓zdm, ↓zfe, ↓zdn, ↓zca, ↓zcb, ↓zfa, ↓zfv, ↓zez, ↓zfw, ↓zfc, ↓zfu, ↓zfb, ↓zdj, ↓zcd, ↓zdk, ↓zbl, ↓zdy, ↓zcf, ↓zdz, ↓zcg, ↓zch, ↓zbz, ↓zcc, ↓zdi, ↓zei, ↓zeh, ↓zdx, ↓zdw, ↓zdu, ↓zdq, ↓zea, ↓zcs, ↓zct, ↓zen, ↓zbg, ↓zcv, ↓zcu, ↓zcx, ↓zce, ↓reduceIte, and_self, ↓zbt, ↓zcq, ↓zbs, ↓zbm, ↓zdl, ↓zdf, ↓zby, ↓zec, ↓zed, ↓zee, ↓zef, ↓zdv, ↓zdt, ↓zem, ↓zek, ↓zel, ↓zej, ↓zcl, ↓zeb, ↓zck, ↓zcn, ↓zco, ↓zcm, ↓zbo, ↓zcp, ↓zbn, ↓zbq, ↓zbr, ↓zbp, ↓zal, ↓zak, ↓zai, ↓zba, ↓zaj, ↓zax, ↓zaw, ↓zau, ↓zbe, ↓zav, ↓zad, ↓zac, ↓zaa, ↓zay, ↓zab, ↓zap, ↓zao, ↓zam, ↓zbb, ↓zan, ↓zat, ↓zas, ↓zaq, ↓zbc, ↓zar, ↓zah, ↓zag, ↓zae, ↓zaz, ↓zaf, Bool.not_true, Bool.not_false, Bool.false_eq_true, zbf, zbd, ↓sl0, ↓sl1, ↓sl2, ↓sl3, ↓sl4, ↓sl5, ↓sl6, ↓sl7, ↓sl8, true_and, and_true, zbj, decide_true, decide_false, List.getElem?_cons_zero, List.getElem?_cons_succ, List.set_cons_zero, List.set_cons_succ, qiD]
    rfl
  rw [map_fst, sortB_map (f := qiD) (kf := fun p : Int × Key => D.int p.1) (lt := fun a b => decide (a.1 < b.1)) fun a _ b _ => int_lt a.1 b.1]
  have hw : ((srtQ es).map qiD).length ≤ 2000 := by
    rw [List.length_map]; unfold srtQ; rw [sortA_len]; omega
  simp (maxSteps := 4000000) (disch := decide) only [↓zdg, ↓zbx, ↓FL.then_nx, ↓FL.then_rt, ↓FL.then_bk, ↓FL.then_ct, ↓zbu, ↓zbv, ↓zcz, ↓zew, ↓zdc, ↓zex, ↓zdd, ↓zbw, ↓zev, ↓zeu, ↓zet, ↓zcy, ↓zda, ↓zdb, ↓zde, ↓zey, ↓zes, ↓zbi, ↓zfx, ↓zfy, ↓zci, ↓zcj, ↓zfp, ↓zbh, ↓zfh, ↓zfn, ↓zga, ↓zfl, ↓zdp, ↓zdo, ↓zfm, ↓zff, ↓zfk, ↓zgc, ↓zfd, ↓zgd, ↓zfq, ↓or1, ↓and2, ↓or2, ↓zdr, ↓zfs, ↓zds, ↓zft, ↓zfg, ↓zeg, ↓zcr, ↓zfo, ↓zfj, ↓zgb, ↓zfr, ↓zer, ↓zbk, ↓zge, ↓zfz, ↓zfi, ↓zdm, ↓zfe, ↓zdn, ↓zca, ↓zcb, ↓zfa, ↓zfv, ↓zez, ↓zfw, ↓zfc, ↓zfu, ↓zfb, ↓zdj, ↓zcd, ↓zdk, ↓zbl, ↓zdy, ↓zcf, ↓zdz, ↓zcg, ↓zch, ↓zbz, ↓zcc, ↓zdi, ↓zei, ↓zeh, ↓zdx, ↓zdw, ↓zdu, ↓zdq, ↓zea, ↓zcs, ↓zct, ↓zen, ↓zbg, ↓zcv, ↓zcu, ↓zcx, ↓zce, ↓reduceIte, and_self, ↓zbt, ↓zcq, ↓zbs, ↓zbm, ↓zdl, ↓zdf, ↓zby, ↓zec, ↓zed, ↓zee, ↓zef, ↓zdv, ↓zdt, ↓zem, ↓zek, ↓zel, ↓zej, ↓zcl, ↓zeb, ↓zck, ↓zcn, ↓zco, ↓zcm, ↓zbo, ↓zcp, ↓zbn, ↓zbq, ↓zbr, ↓zbp, ↓zal, ↓zak, ↓zai, ↓zba, ↓zaj, ↓zax, ↓zaw, ↓zau, ↓zbe, ↓zav, ↓zad, ↓zac, ↓zaa, ↓zay, ↓zab, ↓zap, ↓zao, ↓zam, ↓zbb, ↓zan, ↓zat, ↓zas, ↓zaq, ↓zbc, ↓zar, ↓zah, ↓zag, ↓zae, ↓zaz, ↓zaf, Bool.not_true, Bool.not_false, Bool.false_eq_true, zbf, zbd, ↓sl0, ↓sl1, ↓sl2, ↓sl3, ↓sl4, ↓sl5, ↓sl6, ↓sl7, ↓sl8, true_and, and_true, zbj, decide_true, decide_false, List.getElem?_cons_zero, List.getElem?_cons_succ, List.set_cons_zero, List.set_cons_succ, ↓tuple_v (seqOf_ref app_new)]
  refine (v_is (within_bounds_e hw _)).mpr ?_
  exact ⟨rfl, .app⟩
end DL

set_option Elab.async false
set_option linter.all false
set_option maxRecDepth 100000
set_option maxHeartbeats 4000000
namespace DL
open PySem PySem.Spec PyProof.Rows L2
inductive Kd where | seq | map | que | ivl
def kS : Kd → D | .seq => .str "sequence" | .map => .str "map" | .que => .str "queue" | .ivl => .str "intervals"
theorem k1 : (Str.ofString "sequence" = Str.ofString "map") = False := eq_false (by decide +kernel)
theorem k2 : (Str.ofString "sequence" = Str.ofString "queue") = False := eq_false (by decide +kernel)
theorem k3 : (Str.ofString "sequence" = Str.ofString "intervals") = False := eq_false (by decide +kernel)
theorem k4 : (Str.ofString "map" = Str.ofString "sequence") = False := eq_false (by decide +kernel)
theorem k5 : (Str.ofString "map" = Str.ofString "queue") = False := eq_false (by decide +kernel)
theorem k6 : (Str.ofString "map" = Str.ofString "intervals") = False := eq_false (by decide +kernel)
theorem k7 : (Str.ofString "queue" = Str.ofString "sequence") = False := eq_false (by decide +kernel)
theorem k8 : (Str.ofString "queue" = Str.ofString "map") = False := eq_false (by decide +kernel)
theorem k9 : (Str.ofString "queue" = Str.ofString "intervals") = False := eq_false (by decide +kernel)
theorem k10 : (Str.ofString "intervals" = Str.ofString "sequence") = False := eq_false (by decide +kernel)
theorem k11 : (Str.ofString "intervals" = Str.ofString "map") = False := eq_false (by decide +kernel)
theorem k12 : (Str.ofString "intervals" = Str.ofString "queue") = False := eq_false (by decide +kernel)
inductive TEl where | sc (k : Key) | pr (a b : Key)
def teD : TEl → D | .sc k => kD k | .pr a b => .tup [kD a, kD b]
def fitsM : Kd → TEl → Bool
  | .seq, _ => true
  | .map, .pr _ _ => true
  | .que, .pr (.inl _) _ => true
  | .ivl, .pr (.inl a) (.inl b) => decide (a < b)
  | _, _ => false
def ordM : Kd → TEl → TEl → Bool
  | .seq, _, _ => true
  | .map, .pr a _, .pr b _ => ltK a b
  | .que, .pr (.inl i) _, .pr (.inl j) _ => decide (i ≤ j)
  | .ivl, .pr _ (.inl i), .pr (.inl j) _ => decide (i < j)
  | _, _, _ => false
def validP (kd : Kd) (es : List TEl) : Prop := (∀ e ∈ es, fitsM kd e = true) ∧ ∀ i a b, es[i]? = some a → es[i + 1]? = some b → ordM kd a b = true
theorem fits_e (kd : Kd) (e : TEl) (h : Hd) : fF10 [kS kd, teD e] h = .ok (.bl (fitsM kd e)) h := Res.sat_eq (by
  refine runP_v (σ := [some (kS kd), some (teD e), none, none]) (by rfl) (by rfl) ?_
  unfold bB10
  cases kd <;> cases e with
  | sc k => cases k <;> (simp (maxSteps := 4000000) (disch := decide) only [↓zdg, ↓zbx, ↓FL.then_nx, ↓FL.then_rt, ↓FL.then_bk, ↓FL.then_ct, ↓zbu, ↓zbv, ↓zcz, ↓zew, ↓zdc, ↓zex, ↓zdd, ↓zbw, ↓zev, ↓zeu, ↓zet, ↓zcy, ↓zda, ↓zdb, ↓zde, ↓zey, ↓zes, ↓zbi, ↓zfx, ↓zfy, ↓zci, ↓zcj, ↓zfp, ↓zbh, ↓zfh, ↓zfn, ↓zga, ↓zfl, ↓zdp, ↓zdo, ↓zfm, ↓zff, ↓zfk, ↓zgc, ↓zfd, ↓zgd, ↓zfq, ↓or1, ↓and2, ↓or2, ↓zdr, ↓zfs, ↓zds, ↓zft, ↓zfg, ↓zeg, ↓zcr, ↓zfo, ↓zfj, ↓zgb, ↓zfr, ↓zer, ↓zbk, ↓zge, ↓zfz, ↓zfi, ↓zdm, ↓zfe, ↓zdn, ↓zca, ↓zcb, ↓zfa, ↓zfv, ↓zez, ↓zfw, ↓zfc, ↓zfu, ↓zfb, ↓zdj, ↓zcd, ↓zdk, ↓zbl, ↓zdy, ↓zcf, ↓zdz, ↓zcg, ↓zch, ↓zbz, ↓zcc, ↓zdi, ↓zei, ↓zeh, ↓zdx, ↓zdw, ↓zdu, ↓zdq, ↓zea, ↓zcs, ↓zct, ↓zen, ↓zbg, ↓zcv, ↓zcu, ↓zcx, ↓zce, ↓reduceIte, and_self, ↓zbt, ↓zcq, ↓zbs, ↓zbm, ↓zdl, ↓zdf, ↓zby, ↓zec, ↓zed, ↓zee, ↓zef, ↓zdv, ↓zdt, ↓zem, ↓zek, ↓zel, ↓zej, ↓zcl, ↓zeb, ↓zck, ↓zcn, ↓zco, ↓zcm, ↓zbo, ↓zcp, ↓zbn, ↓zbq, ↓zbr, ↓zbp, ↓zal, ↓zak, ↓zai, ↓zba, ↓zaj, ↓zax, ↓zaw, ↓zau, ↓zbe, ↓zav, ↓zad, ↓zac, ↓zaa, ↓zay, ↓zab, ↓zap, ↓zao, ↓zam, ↓zbb, ↓zan, ↓zat, ↓zas, ↓zaq, ↓zbc, ↓zar, ↓zah, ↓zag, ↓zae, ↓zaz, ↓zaf, Bool.not_true, Bool.not_false, Bool.false_eq_true, zbf, zbd, ↓sl0, ↓sl1, ↓sl2, ↓sl3, ↓sl4, ↓sl5, ↓sl6, ↓sl7, ↓sl8, true_and, and_true, zbj, decide_true, decide_false, List.getElem?_cons_zero, List.getElem?_cons_succ, List.set_cons_zero, List.set_cons_succ, kS, teD, kD, k1, k2, k3, k4, k5, k6, k7, k8, k9, k10, k11, k12]; first | rfl | exact ⟨rfl, rfl⟩)
  | pr a b => cases a <;> cases b <;> (simp (maxSteps := 4000000) (disch := decide) only [↓zdg, ↓zbx, ↓FL.then_nx, ↓FL.then_rt, ↓FL.then_bk, ↓FL.then_ct, ↓zbu, ↓zbv, ↓zcz, ↓zew, ↓zdc, ↓zex, ↓zdd, ↓zbw, ↓zev, ↓zeu, ↓zet, ↓zcy, ↓zda, ↓zdb, ↓zde, ↓zey, ↓zes, ↓zbi, ↓zfx, ↓zfy, ↓zci, ↓zcj, ↓zfp, ↓zbh, ↓zfh, ↓zfn, ↓zga, ↓zfl, ↓zdp, ↓zdo, ↓zfm, ↓zff, ↓zfk, ↓zgc, ↓zfd, ↓zgd, ↓zfq, ↓or1, ↓and2, ↓or2, ↓zdr, ↓zfs, ↓zds, ↓zft, ↓zfg, ↓zeg, ↓zcr, ↓zfo, ↓zfj, ↓zgb, ↓zfr, ↓zer, ↓zbk, ↓zge, ↓zfz, ↓zfi, ↓zdm, ↓zfe, ↓zdn, ↓zca, ↓zcb, ↓zfa, ↓zfv, ↓zez, ↓zfw, ↓zfc, ↓zfu, ↓zfb, ↓zdj, ↓zcd, ↓zdk, ↓zbl, ↓zdy, ↓zcf, ↓zdz, ↓zcg, ↓zch, ↓zbz, ↓zcc, ↓zdi, ↓zei, ↓zeh, ↓zdx, ↓zdw, ↓zdu, ↓zdq, ↓zea, ↓zcs, ↓zct, ↓zen, ↓zbg, ↓zcv, ↓zcu, ↓zcx, ↓zce, ↓reduceIte, and_self, ↓zbt, ↓zcq, ↓zbs, ↓zbm, ↓zdl, ↓zdf, ↓zby, ↓zec, ↓zed, ↓zee, ↓zef, ↓zdv, ↓zdt, ↓zem, ↓zek, ↓zel, ↓zej, ↓zcl, ↓zeb, ↓zck, ↓zcn, ↓zco, ↓zcm, ↓zbo, ↓zcp, ↓zbn, ↓zbq, ↓zbr, ↓zbp, ↓zal, ↓zak, ↓zai, ↓zba, ↓zaj, ↓zax, ↓zaw, ↓zau, ↓zbe, ↓zav, ↓zad, ↓zac, ↓zaa, ↓zay, ↓zab, ↓zap, ↓zao, ↓zam, ↓zbb, ↓zan, ↓zat, ↓zas, ↓zaq, ↓zbc, ↓zar, ↓zah, ↓zag, ↓zae, ↓zaz, ↓zaf, Bool.not_true, Bool.not_false, Bool.false_eq_true, zbf, zbd, ↓sl0, ↓sl1, ↓sl2, ↓sl3, ↓sl4, ↓sl5, ↓sl6, ↓sl7, ↓sl8, true_and, and_true, zbj, decide_true, decide_false, List.getElem?_cons_zero, List.getElem?_cons_succ, List.set_cons_zero, List.set_cons_succ, kS, teD, kD, k1, k2, k3, k4, k5, k6, k7, k8, k9, k10, k11, k12]; first | rfl | exact ⟨rfl, rfl⟩))
theorem in_order_e {kd : Kd} {e f : TEl} (he : fitsM kd e = true) (hf : fitsM kd f = true) (h : Hd) : fF11 [kS kd, teD e, teD f] h = .ok (.bl (ordM kd e f)) h := Res.sat_eq (by
  refine runP_v (σ := [some (kS kd), some (teD e), some (teD f)]) (by rfl) (by rfl) ?_
  unfold bB11
  cases kd with
  | seq => simp (maxSteps := 4000000) (disch := decide) only [↓zdg, ↓zbx, ↓FL.then_nx, ↓FL.then_rt, ↓FL.then_bk, ↓FL.then_ct, ↓zbu, ↓zbv, ↓zcz, ↓zew, ↓zdc, ↓zex, ↓zdd, ↓zbw, ↓zev, ↓zeu, ↓zet, ↓zcy, ↓zda, ↓zdb, ↓zde, ↓zey, ↓zes, ↓zbi, ↓zfx, ↓zfy, ↓zci, ↓zcj, ↓zfp, ↓zbh, ↓zfh, ↓zfn, ↓zga, ↓zfl, ↓zdp, ↓zdo, ↓zfm, ↓zff, ↓zfk, ↓zgc, ↓zfd, ↓zgd, ↓zfq, ↓or1, ↓and2, ↓or2, ↓zdr, ↓zfs, ↓zds, ↓zft, ↓zfg, ↓zeg, ↓zcr, ↓zfo, ↓zfj, ↓zgb, ↓zfr, ↓zer, ↓zbk, ↓zge, ↓zfz, ↓zfi, ↓zdm, ↓zfe, ↓zdn, ↓zca, ↓zcb, ↓zfa, ↓zfv, ↓zez, ↓zfw, ↓zfc, ↓zfu, ↓zfb, ↓zdj, ↓zcd, ↓zdk, ↓zbl, ↓zdy, ↓zcf, ↓zdz, ↓zcg, ↓zch, ↓zbz, ↓zcc, ↓zdi, ↓zei, ↓zeh, ↓zdx, ↓zdw, ↓zdu, ↓zdq, ↓zea, ↓zcs, ↓zct, ↓zen, ↓zbg, ↓zcv, ↓zcu, ↓zcx, ↓zce, ↓reduceIte, and_self, ↓zbt, ↓zcq, ↓zbs, ↓zbm, ↓zdl, ↓zdf, ↓zby, ↓zec, ↓zed, ↓zee, ↓zef, ↓zdv, ↓zdt, ↓zem, ↓zek, ↓zel, ↓zej, ↓zcl, ↓zeb, ↓zck, ↓zcn, ↓zco, ↓zcm, ↓zbo, ↓zcp, ↓zbn, ↓zbq, ↓zbr, ↓zbp, ↓zal, ↓zak, ↓zai, ↓zba, ↓zaj, ↓zax, ↓zaw, ↓zau, ↓zbe, ↓zav, ↓zad, ↓zac, ↓zaa, ↓zay, ↓zab, ↓zap, ↓zao, ↓zam, ↓zbb, ↓zan, ↓zat, ↓zas, ↓zaq, ↓zbc, ↓zar, ↓zah, ↓zag, ↓zae, ↓zaz, ↓zaf, Bool.not_true, Bool.not_false, Bool.false_eq_true, zbf, zbd, ↓sl0, ↓sl1, ↓sl2, ↓sl3, ↓sl4, ↓sl5, ↓sl6, ↓sl7, ↓sl8, true_and, and_true, zbj, decide_true, decide_false, List.getElem?_cons_zero, List.getElem?_cons_succ, List.set_cons_zero, List.set_cons_succ, kS, k1, k2, k3]; rfl
  | map =>
    cases e with
    | sc k => cases he
    | pr a b => cases f with
      | sc k => cases hf
      | pr c d =>
        simp (maxSteps := 4000000) (disch := decide) only [↓zdg, ↓zbx, ↓FL.then_nx, ↓FL.then_rt, ↓FL.then_bk, ↓FL.then_ct, ↓zbu, ↓zbv, ↓zcz, ↓zew, ↓zdc, ↓zex, ↓zdd, ↓zbw, ↓zev, ↓zeu, ↓zet, ↓zcy, ↓zda, ↓zdb, ↓zde, ↓zey, ↓zes, ↓zbi, ↓zfx, ↓zfy, ↓zci, ↓zcj, ↓zfp, ↓zbh, ↓zfh, ↓zfn, ↓zga, ↓zfl, ↓zdp, ↓zdo, ↓zfm, ↓zff, ↓zfk, ↓zgc, ↓zfd, ↓zgd, ↓zfq, ↓or1, ↓and2, ↓or2, ↓zdr, ↓zfs, ↓zds, ↓zft, ↓zfg, ↓zeg, ↓zcr, ↓zfo, ↓zfj, ↓zgb, ↓zfr, ↓zer, ↓zbk, ↓zge, ↓zfz, ↓zfi, ↓zdm, ↓zfe, ↓zdn, ↓zca, ↓zcb, ↓zfa, ↓zfv, ↓zez, ↓zfw, ↓zfc, ↓zfu, ↓zfb, ↓zdj, ↓zcd, ↓zdk, ↓zbl, ↓zdy, ↓zcf, ↓zdz, ↓zcg, ↓zch, ↓zbz, ↓zcc, ↓zdi, ↓zei, ↓zeh, ↓zdx, ↓zdw, ↓zdu, ↓zdq, ↓zea, ↓zcs, ↓zct, ↓zen, ↓zbg, ↓zcv, ↓zcu, ↓zcx, ↓zce, ↓reduceIte, and_self, ↓zbt, ↓zcq, ↓zbs, ↓zbm, ↓zdl, ↓zdf, ↓zby, ↓zec, ↓zed, ↓zee, ↓zef, ↓zdv, ↓zdt, ↓zem, ↓zek, ↓zel, ↓zej, ↓zcl, ↓zeb, ↓zck, ↓zcn, ↓zco, ↓zcm, ↓zbo, ↓zcp, ↓zbn, ↓zbq, ↓zbr, ↓zbp, ↓zal, ↓zak, ↓zai, ↓zba, ↓zaj, ↓zax, ↓zaw, ↓zau, ↓zbe, ↓zav, ↓zad, ↓zac, ↓zaa, ↓zay, ↓zab, ↓zap, ↓zao, ↓zam, ↓zbb, ↓zan, ↓zat, ↓zas, ↓zaq, ↓zbc, ↓zar, ↓zah, ↓zag, ↓zae, ↓zaz, ↓zaf, Bool.not_true, Bool.not_false, Bool.false_eq_true, zbf, zbd, ↓sl0, ↓sl1, ↓sl2, ↓sl3, ↓sl4, ↓sl5, ↓sl6, ↓sl7, ↓sl8, true_and, and_true, zbj, decide_true, decide_false, List.getElem?_cons_zero, List.getElem?_cons_succ, List.set_cons_zero, List.set_cons_succ, kS, teD, tt11_6, ↓v_is (entry_rank_e a [kD b] h), ↓v_is (entry_rank_e c [kD d] h), ↓lt_rk]
        rfl
  | que =>
    cases e with
    | sc k => cases he
    | pr a b => cases f with
      | sc k => cases hf
      | pr c d =>
        cases a with
        | inr x => cases he
        | inl i => cases c with
          | inr x => cases hf
          | inl j => simp (maxSteps := 4000000) (disch := decide) only [↓zdg, ↓zbx, ↓FL.then_nx, ↓FL.then_rt, ↓FL.then_bk, ↓FL.then_ct, ↓zbu, ↓zbv, ↓zcz, ↓zew, ↓zdc, ↓zex, ↓zdd, ↓zbw, ↓zev, ↓zeu, ↓zet, ↓zcy, ↓zda, ↓zdb, ↓zde, ↓zey, ↓zes, ↓zbi, ↓zfx, ↓zfy, ↓zci, ↓zcj, ↓zfp, ↓zbh, ↓zfh, ↓zfn, ↓zga, ↓zfl, ↓zdp, ↓zdo, ↓zfm, ↓zff, ↓zfk, ↓zgc, ↓zfd, ↓zgd, ↓zfq, ↓or1, ↓and2, ↓or2, ↓zdr, ↓zfs, ↓zds, ↓zft, ↓zfg, ↓zeg, ↓zcr, ↓zfo, ↓zfj, ↓zgb, ↓zfr, ↓zer, ↓zbk, ↓zge, ↓zfz, ↓zfi, ↓zdm, ↓zfe, ↓zdn, ↓zca, ↓zcb, ↓zfa, ↓zfv, ↓zez, ↓zfw, ↓zfc, ↓zfu, ↓zfb, ↓zdj, ↓zcd, ↓zdk, ↓zbl, ↓zdy, ↓zcf, ↓zdz, ↓zcg, ↓zch, ↓zbz, ↓zcc, ↓zdi, ↓zei, ↓zeh, ↓zdx, ↓zdw, ↓zdu, ↓zdq, ↓zea, ↓zcs, ↓zct, ↓zen, ↓zbg, ↓zcv, ↓zcu, ↓zcx, ↓zce, ↓reduceIte, and_self, ↓zbt, ↓zcq, ↓zbs, ↓zbm, ↓zdl, ↓zdf, ↓zby, ↓zec, ↓zed, ↓zee, ↓zef, ↓zdv, ↓zdt, ↓zem, ↓zek, ↓zel, ↓zej, ↓zcl, ↓zeb, ↓zck, ↓zcn, ↓zco, ↓zcm, ↓zbo, ↓zcp, ↓zbn, ↓zbq, ↓zbr, ↓zbp, ↓zal, ↓zak, ↓zai, ↓zba, ↓zaj, ↓zax, ↓zaw, ↓zau, ↓zbe, ↓zav, ↓zad, ↓zac, ↓zaa, ↓zay, ↓zab, ↓zap, ↓zao, ↓zam, ↓zbb, ↓zan, ↓zat, ↓zas, ↓zaq, ↓zbc, ↓zar, ↓zah, ↓zag, ↓zae, ↓zaz, ↓zaf, Bool.not_true, Bool.not_false, Bool.false_eq_true, zbf, zbd, ↓sl0, ↓sl1, ↓sl2, ↓sl3, ↓sl4, ↓sl5, ↓sl6, ↓sl7, ↓sl8, true_and, and_true, zbj, decide_true, decide_false, List.getElem?_cons_zero, List.getElem?_cons_succ, List.set_cons_zero, List.set_cons_succ, kS, teD, kD, k8]; rfl
  | ivl =>
    cases e with
    | sc k => cases he
    | pr a b => cases f with
      | sc k => cases hf
      | pr c d =>
        cases a with
        | inr x => cases he
        | inl i => cases c with
          | inr x => cases hf
          | inl j =>
            cases b with
            | inr x => cases he
            | inl i' => simp (maxSteps := 4000000) (disch := decide) only [↓zdg, ↓zbx, ↓FL.then_nx, ↓FL.then_rt, ↓FL.then_bk, ↓FL.then_ct, ↓zbu, ↓zbv, ↓zcz, ↓zew, ↓zdc, ↓zex, ↓zdd, ↓zbw, ↓zev, ↓zeu, ↓zet, ↓zcy, ↓zda, ↓zdb, ↓zde, ↓zey, ↓zes, ↓zbi, ↓zfx, ↓zfy, ↓zci, ↓zcj, ↓zfp, ↓zbh, ↓zfh, ↓zfn, ↓zga, ↓zfl, ↓zdp, ↓zdo, ↓zfm, ↓zff, ↓zfk, ↓zgc, ↓zfd, ↓zgd, ↓zfq, ↓or1, ↓and2, ↓or2, ↓zdr, ↓zfs, ↓zds, ↓zft, ↓zfg, ↓zeg, ↓zcr, ↓zfo, ↓zfj, ↓zgb, ↓zfr, ↓zer, ↓zbk, ↓zge, ↓zfz, ↓zfi, ↓zdm, ↓zfe, ↓zdn, ↓zca, ↓zcb, ↓zfa, ↓zfv, ↓zez, ↓zfw, ↓zfc, ↓zfu, ↓zfb, ↓zdj, ↓zcd, ↓zdk, ↓zbl, ↓zdy, ↓zcf, ↓zdz, ↓zcg, ↓zch, ↓zbz, ↓zcc, ↓zdi, ↓zei, ↓zeh, ↓zdx, ↓zdw, ↓zdu, ↓zdq, ↓zea, ↓zcs, ↓zct, ↓zen, ↓zbg, ↓zcv, ↓zcu, ↓zcx, ↓zce, ↓reduceIte, and_self, ↓zbt, ↓zcq, ↓zbs, ↓zbm, ↓zdl, ↓zdf, ↓zby, ↓zec, ↓zed, ↓zee, ↓zef, ↓zdv, ↓zdt, ↓zem, ↓zek, ↓zel, ↓zej, ↓zcl, ↓zeb, ↓zck, ↓zcn, ↓zco, ↓zcm, ↓zbo, ↓zcp, ↓zbn, ↓zbq, ↓zbr, ↓zbp, ↓zal, ↓zak, ↓zai, ↓zba, ↓zaj, ↓zax, ↓zaw, ↓zau, ↓zbe, ↓zav, ↓zad, ↓zac, ↓zaa, ↓zay, ↓zab, ↓zap, ↓zao, ↓zam, ↓zbb, ↓zan, ↓zat, ↓zas, ↓zaq, ↓zbc, ↓zar, ↓zah, ↓zag, ↓zae, ↓zaz, ↓zaf, Bool.not_true, Bool.not_false, Bool.false_eq_true, zbf, zbd, ↓sl0, ↓sl1, ↓sl2, ↓sl3, ↓sl4, ↓sl5, ↓sl6, ↓sl7, ↓sl8, true_and, and_true, zbj, decide_true, decide_false, List.getElem?_cons_zero, List.getElem?_cons_succ, List.set_cons_zero, List.set_cons_succ, kS, teD, kD, k10, k11, k12]; rfl)
theorem zip_at {es : List TEl} {i : Nat} {d : D} (e : ((((es.map teD).zip ((es.map teD).drop 1)).map fun p : D × D => D.tup [p.1, p.2]))[i]? = some d) : ∃ a b, es[i]? = some a ∧ es[i + 1]? = some b ∧ d = .tup [teD a, teD b] := by
  rw [List.getElem?_map] at e
  cases q : ((es.map teD).zip ((es.map teD).drop 1))[i]? with
  | none => rw [q] at e; cases e
  | some p =>
    rw [q] at e
    obtain ⟨q1, q2⟩ := List.getElem?_zip_eq_some.mp q
    rw [List.getElem?_map] at q1
    rw [List.getElem?_drop, List.getElem?_map, Nat.add_comm] at q2
    cases e1 : es[i]? with
    | none => rw [e1] at q1; cases q1
    | some a =>
      cases e2 : es[i + 1]? with
      | none => rw [e2] at q2; cases q2
      | some b =>
        rw [e1] at q1
        rw [e2] at q2
        cases e
        refine ⟨a, b, rfl, rfl, ?_⟩
        have q1 : teD a = p.1 := Option.some.inj q1
        have q2 : teD b = p.2 := Option.some.inj q2
        rw [q1, q2]
theorem zip_cnt {es : List TEl} {i : Nat} {a b : TEl} (e1 : es[i]? = some a) (e2 : es[i + 1]? = some b) : i < ((((es.map teD).zip ((es.map teD).drop 1)).map fun p : D × D => D.tup [p.1, p.2])).length := by
  have h2 := (List.getElem?_eq_some_iff.mp e2).1
  simp
  omega
theorem is_valid_v {E : XP} {P : D → Hd → Prop} {kd : Kd} {es : List TEl} {h : Hd} (hl : es.length ≤ 500000) (q : ∀ b h', (b = true ↔ validP kd es) → Kp h h' → P (.bl b) h') : vC (E := E) fF12 [kS kd, .tup (es.map teD)] h P := by
  refine vC.mono (P := fun d h' => ∃ b, d = .bl b ∧ (b = true ↔ validP kd es) ∧ Kp h h') ?_ fun d h' ⟨b, e, v, k⟩ => e ▸ q b h' v k
  refine runP_v (σ := [some (kS kd), some (.tup (es.map teD)), none, none]) (by rfl) (by rfl) ?_
  unfold bB12
  refine ss_mid (fun τ h' => h' = h ∧ (∀ e ∈ es, fitsM kd e = true) ∧ ∃ z2 z3, τ = [some (kS kd), some (.tup (es.map teD)), z2, z3]) ?_ ?_
  · simp (maxSteps := 4000000) (disch := decide) only [↓zdg, ↓zbx, ↓FL.then_nx, ↓FL.then_rt, ↓FL.then_bk, ↓FL.then_ct, ↓zbu, ↓zbv, ↓zcz, ↓zew, ↓zdc, ↓zex, ↓zdd, ↓zbw, ↓zev, ↓zeu, ↓zet, ↓zcy, ↓zda, ↓zdb, ↓zde, ↓zey, ↓zes, ↓zbi, ↓zfx, ↓zfy, ↓zci, ↓zcj, ↓zfp, ↓zbh, ↓zfh, ↓zfn, ↓zga, ↓zfl, ↓zdp, ↓zdo, ↓zfm, ↓zff, ↓zfk, ↓zgc, ↓zfd, ↓zgd, ↓zfq, ↓or1, ↓and2, ↓or2, ↓zdr, ↓zfs, ↓zds, ↓zft, ↓zfg, ↓zeg, ↓zcr, ↓zfo, ↓zfj, ↓zgb, ↓zfr, ↓zer, ↓zbk, ↓zge, ↓zfz, ↓zfi, ↓zdm, ↓zfe, ↓zdn, ↓zca, ↓zcb, ↓zfa, ↓zfv, ↓zez, ↓zfw, ↓zfc, ↓zfu, ↓zfb, ↓zdj, ↓zcd, ↓zdk, ↓zbl, ↓zdy, ↓zcf, ↓zdz, ↓zcg, ↓zch, ↓zbz, ↓zcc, ↓zdi, ↓zei, ↓zeh, ↓zdx, ↓zdw, ↓zdu, ↓zdq, ↓zea, ↓zcs, ↓zct, ↓zen, ↓zbg, ↓zcv, ↓zcu, ↓zcx, ↓zce, ↓reduceIte, and_self, ↓zbt, ↓zcq, ↓zbs, ↓zbm, ↓zdl, ↓zdf, ↓zby, ↓zec, ↓zed, ↓zee, ↓zef, ↓zdv, ↓zdt, ↓zem, ↓zek, ↓zel, ↓zej, ↓zcl, ↓zeb, ↓zck, ↓zcn, ↓zco, ↓zcm, ↓zbo, ↓zcp, ↓zbn, ↓zbq, ↓zbr, ↓zbp, ↓zal, ↓zak, ↓zai, ↓zba, ↓zaj, ↓zax, ↓zaw, ↓zau, ↓zbe, ↓zav, ↓zad, ↓zac, ↓zaa, ↓zay, ↓zab, ↓zap, ↓zao, ↓zam, ↓zbb, ↓zan, ↓zat, ↓zas, ↓zaq, ↓zbc, ↓zar, ↓zah, ↓zag, ↓zae, ↓zaz, ↓zaf, Bool.not_true, Bool.not_false, Bool.false_eq_true, zbf, zbd, ↓sl0, ↓sl1, ↓sl2, ↓sl3, ↓sl4, ↓sl5, ↓sl6, ↓sl7, ↓sl8, true_and, and_true, zbj, decide_true, decide_false, List.getElem?_cons_zero, List.getElem?_cons_succ, List.set_cons_zero, List.set_cons_succ]
    refine for_sat (fun i τ h' => h' = h ∧ (∀ e ∈ es.take i, fitsM kd e = true) ∧ ∃ z2 z3, τ = [some (kS kd), some (.tup (es.map teD)), z2, z3]) ⟨rfl, by simp, _, _, rfl⟩ (fun _ _ _ _ _ _ z => nomatch z) (fun i τ h' d hd ⟨eh, hf, z2, z3, eτ⟩ => ?_) fun τ h' ⟨eh, hf, z2, z3, eτ⟩ => ?_
    · subst eh eτ
      rw [List.getElem?_map] at hd
      cases ex : es[i]? with
      | none => rw [ex] at hd; cases hd
      | some e =>
        rw [ex] at hd
        cases hd
        refine ⟨_, rfl, ?_⟩
        simp (maxSteps := 4000000) (disch := decide) only [↓zdg, ↓zbx, ↓FL.then_nx, ↓FL.then_rt, ↓FL.then_bk, ↓FL.then_ct, ↓zbu, ↓zbv, ↓zcz, ↓zew, ↓zdc, ↓zex, ↓zdd, ↓zbw, ↓zev, ↓zeu, ↓zet, ↓zcy, ↓zda, ↓zdb, ↓zde, ↓zey, ↓zes, ↓zbi, ↓zfx, ↓zfy, ↓zci, ↓zcj, ↓zfp, ↓zbh, ↓zfh, ↓zfn, ↓zga, ↓zfl, ↓zdp, ↓zdo, ↓zfm, ↓zff, ↓zfk, ↓zgc, ↓zfd, ↓zgd, ↓zfq, ↓or1, ↓and2, ↓or2, ↓zdr, ↓zfs, ↓zds, ↓zft, ↓zfg, ↓zeg, ↓zcr, ↓zfo, ↓zfj, ↓zgb, ↓zfr, ↓zer, ↓zbk, ↓zge, ↓zfz, ↓zfi, ↓zdm, ↓zfe, ↓zdn, ↓zca, ↓zcb, ↓zfa, ↓zfv, ↓zez, ↓zfw, ↓zfc, ↓zfu, ↓zfb, ↓zdj, ↓zcd, ↓zdk, ↓zbl, ↓zdy, ↓zcf, ↓zdz, ↓zcg, ↓zch, ↓zbz, ↓zcc, ↓zdi, ↓zei, ↓zeh, ↓zdx, ↓zdw, ↓zdu, ↓zdq, ↓zea, ↓zcs, ↓zct, ↓zen, ↓zbg, ↓zcv, ↓zcu, ↓zcx, ↓zce, ↓reduceIte, and_self, ↓zbt, ↓zcq, ↓zbs, ↓zbm, ↓zdl, ↓zdf, ↓zby, ↓zec, ↓zed, ↓zee, ↓zef, ↓zdv, ↓zdt, ↓zem, ↓zek, ↓zel, ↓zej, ↓zcl, ↓zeb, ↓zck, ↓zcn, ↓zco, ↓zcm, ↓zbo, ↓zcp, ↓zbn, ↓zbq, ↓zbr, ↓zbp, ↓zal, ↓zak, ↓zai, ↓zba, ↓zaj, ↓zax, ↓zaw, ↓zau, ↓zbe, ↓zav, ↓zad, ↓zac, ↓zaa, ↓zay, ↓zab, ↓zap, ↓zao, ↓zam, ↓zbb, ↓zan, ↓zat, ↓zas, ↓zaq, ↓zbc, ↓zar, ↓zah, ↓zag, ↓zae, ↓zaz, ↓zaf, Bool.not_true, Bool.not_false, Bool.false_eq_true, zbf, zbd, ↓sl0, ↓sl1, ↓sl2, ↓sl3, ↓sl4, ↓sl5, ↓sl6, ↓sl7, ↓sl8, true_and, and_true, zbj, decide_true, decide_false, List.getElem?_cons_zero, List.getElem?_cons_succ, List.set_cons_zero, List.set_cons_succ, tt12_11, tt12_10, ↓v_is (fits_e kd e h')]
        cases hb : fitsM kd e with
        | true =>
          simp (maxSteps := 4000000) (disch := decide) only [↓zdg, ↓zbx, ↓FL.then_nx, ↓FL.then_rt, ↓FL.then_bk, ↓FL.then_ct, ↓zbu, ↓zbv, ↓zcz, ↓zew, ↓zdc, ↓zex, ↓zdd, ↓zbw, ↓zev, ↓zeu, ↓zet, ↓zcy, ↓zda, ↓zdb, ↓zde, ↓zey, ↓zes, ↓zbi, ↓zfx, ↓zfy, ↓zci, ↓zcj, ↓zfp, ↓zbh, ↓zfh, ↓zfn, ↓zga, ↓zfl, ↓zdp, ↓zdo, ↓zfm, ↓zff, ↓zfk, ↓zgc, ↓zfd, ↓zgd, ↓zfq, ↓or1, ↓and2, ↓or2, ↓zdr, ↓zfs, ↓zds, ↓zft, ↓zfg, ↓zeg, ↓zcr, ↓zfo, ↓zfj, ↓zgb, ↓zfr, ↓zer, ↓zbk, ↓zge, ↓zfz, ↓zfi, ↓zdm, ↓zfe, ↓zdn, ↓zca, ↓zcb, ↓zfa, ↓zfv, ↓zez, ↓zfw, ↓zfc, ↓zfu, ↓zfb, ↓zdj, ↓zcd, ↓zdk, ↓zbl, ↓zdy, ↓zcf, ↓zdz, ↓zcg, ↓zch, ↓zbz, ↓zcc, ↓zdi, ↓zei, ↓zeh, ↓zdx, ↓zdw, ↓zdu, ↓zdq, ↓zea, ↓zcs, ↓zct, ↓zen, ↓zbg, ↓zcv, ↓zcu, ↓zcx, ↓zce, ↓reduceIte, and_self, ↓zbt, ↓zcq, ↓zbs, ↓zbm, ↓zdl, ↓zdf, ↓zby, ↓zec, ↓zed, ↓zee, ↓zef, ↓zdv, ↓zdt, ↓zem, ↓zek, ↓zel, ↓zej, ↓zcl, ↓zeb, ↓zck, ↓zcn, ↓zco, ↓zcm, ↓zbo, ↓zcp, ↓zbn, ↓zbq, ↓zbr, ↓zbp, ↓zal, ↓zak, ↓zai, ↓zba, ↓zaj, ↓zax, ↓zaw, ↓zau, ↓zbe, ↓zav, ↓zad, ↓zac, ↓zaa, ↓zay, ↓zab, ↓zap, ↓zao, ↓zam, ↓zbb, ↓zan, ↓zat, ↓zas, ↓zaq, ↓zbc, ↓zar, ↓zah, ↓zag, ↓zae, ↓zaz, ↓zaf, Bool.not_true, Bool.not_false, Bool.false_eq_true, zbf, zbd, ↓sl0, ↓sl1, ↓sl2, ↓sl3, ↓sl4, ↓sl5, ↓sl6, ↓sl7, ↓sl8, true_and, and_true, zbj, decide_true, decide_false, List.getElem?_cons_zero, List.getElem?_cons_succ, List.set_cons_zero, List.set_cons_succ]
          refine ⟨?_, _, _, rfl⟩
          rw [take_snoc ex]
          intro e' he'
          rcases List.mem_append.mp he' with z | z
          · exact hf _ z
          · rw [List.mem_singleton.mp z]; exact hb
        | false =>
          simp (maxSteps := 4000000) (disch := decide) only [↓zdg, ↓zbx, ↓FL.then_nx, ↓FL.then_rt, ↓FL.then_bk, ↓FL.then_ct, ↓zbu, ↓zbv, ↓zcz, ↓zew, ↓zdc, ↓zex, ↓zdd, ↓zbw, ↓zev, ↓zeu, ↓zet, ↓zcy, ↓zda, ↓zdb, ↓zde, ↓zey, ↓zes, ↓zbi, ↓zfx, ↓zfy, ↓zci, ↓zcj, ↓zfp, ↓zbh, ↓zfh, ↓zfn, ↓zga, ↓zfl, ↓zdp, ↓zdo, ↓zfm, ↓zff, ↓zfk, ↓zgc, ↓zfd, ↓zgd, ↓zfq, ↓or1, ↓and2, ↓or2, ↓zdr, ↓zfs, ↓zds, ↓zft, ↓zfg, ↓zeg, ↓zcr, ↓zfo, ↓zfj, ↓zgb, ↓zfr, ↓zer, ↓zbk, ↓zge, ↓zfz, ↓zfi, ↓zdm, ↓zfe, ↓zdn, ↓zca, ↓zcb, ↓zfa, ↓zfv, ↓zez, ↓zfw, ↓zfc, ↓zfu, ↓zfb, ↓zdj, ↓zcd, ↓zdk, ↓zbl, ↓zdy, ↓zcf, ↓zdz, ↓zcg, ↓zch, ↓zbz, ↓zcc, ↓zdi, ↓zei, ↓zeh, ↓zdx, ↓zdw, ↓zdu, ↓zdq, ↓zea, ↓zcs, ↓zct, ↓zen, ↓zbg, ↓zcv, ↓zcu, ↓zcx, ↓zce, ↓reduceIte, and_self, ↓zbt, ↓zcq, ↓zbs, ↓zbm, ↓zdl, ↓zdf, ↓zby, ↓zec, ↓zed, ↓zee, ↓zef, ↓zdv, ↓zdt, ↓zem, ↓zek, ↓zel, ↓zej, ↓zcl, ↓zeb, ↓zck, ↓zcn, ↓zco, ↓zcm, ↓zbo, ↓zcp, ↓zbn, ↓zbq, ↓zbr, ↓zbp, ↓zal, ↓zak, ↓zai, ↓zba, ↓zaj, ↓zax, ↓zaw, ↓zau, ↓zbe, ↓zav, ↓zad, ↓zac, ↓zaa, ↓zay, ↓zab, ↓zap, ↓zao, ↓zam, ↓zbb, ↓zan, ↓zat, ↓zas, ↓zaq, ↓zbc, ↓zar, ↓zah, ↓zag, ↓zae, ↓zaz, ↓zaf, Bool.not_true, Bool.not_false, Bool.false_eq_true, zbf, zbd, ↓sl0, ↓sl1, ↓sl2, ↓sl3, ↓sl4, ↓sl5, ↓sl6, ↓sl7, ↓sl8, true_and, and_true, zbj, decide_true, decide_false, List.getElem?_cons_zero, List.getElem?_cons_succ, List.set_cons_zero, List.set_cons_succ]
          refine ⟨false, rfl, ⟨fun z => (nomatch z), fun z => ?_⟩, .refl⟩
          have := z.1 e (List.mem_of_getElem? ex)
          rw [hb] at this; cases this
    · subst eh eτ
      rw [List.length_map, List.take_length] at hf
      simp (maxSteps := 4000000) (disch := decide) only [↓zdg, ↓zbx, ↓FL.then_nx, ↓FL.then_rt, ↓FL.then_bk, ↓FL.then_ct, ↓zbu, ↓zbv, ↓zcz, ↓zew, ↓zdc, ↓zex, ↓zdd, ↓zbw, ↓zev, ↓zeu, ↓zet, ↓zcy, ↓zda, ↓zdb, ↓zde, ↓zey, ↓zes, ↓zbi, ↓zfx, ↓zfy, ↓zci, ↓zcj, ↓zfp, ↓zbh, ↓zfh, ↓zfn, ↓zga, ↓zfl, ↓zdp, ↓zdo, ↓zfm, ↓zff, ↓zfk, ↓zgc, ↓zfd, ↓zgd, ↓zfq, ↓or1, ↓and2, ↓or2, ↓zdr, ↓zfs, ↓zds, ↓zft, ↓zfg, ↓zeg, ↓zcr, ↓zfo, ↓zfj, ↓zgb, ↓zfr, ↓zer, ↓zbk, ↓zge, ↓zfz, ↓zfi, ↓zdm, ↓zfe, ↓zdn, ↓zca, ↓zcb, ↓zfa, ↓zfv, ↓zez, ↓zfw, ↓zfc, ↓zfu, ↓zfb, ↓zdj, ↓zcd, ↓zdk, ↓zbl, ↓zdy, ↓zcf, ↓zdz, ↓zcg, ↓zch, ↓zbz, ↓zcc, ↓zdi, ↓zei, ↓zeh, ↓zdx, ↓zdw, ↓zdu, ↓zdq, ↓zea, ↓zcs, ↓zct, ↓zen, ↓zbg, ↓zcv, ↓zcu, ↓zcx, ↓zce, ↓reduceIte, and_self, ↓zbt, ↓zcq, ↓zbs, ↓zbm, ↓zdl, ↓zdf, ↓zby, ↓zec, ↓zed, ↓zee, ↓zef, ↓zdv, ↓zdt, ↓zem, ↓zek, ↓zel, ↓zej, ↓zcl, ↓zeb, ↓zck, ↓zcn, ↓zco, ↓zcm, ↓zbo, ↓zcp, ↓zbn, ↓zbq, ↓zbr, ↓zbp, ↓zal, ↓zak, ↓zai, ↓zba, ↓zaj, ↓zax, ↓zaw, ↓zau, ↓zbe, ↓zav, ↓zad, ↓zac, ↓zaa, ↓zay, ↓zab, ↓zap, ↓zao, ↓zam, ↓zbb, ↓zan, ↓zat, ↓zas, ↓zaq, ↓zbc, ↓zar, ↓zah, ↓zag, ↓zae, ↓zaz, ↓zaf, Bool.not_true, Bool.not_false, Bool.false_eq_true, zbf, zbd, ↓sl0, ↓sl1, ↓sl2, ↓sl3, ↓sl4, ↓sl5, ↓sl6, ↓sl7, ↓sl8, true_and, and_true, zbj, decide_true, decide_false, List.getElem?_cons_zero, List.getElem?_cons_succ, List.set_cons_zero, List.set_cons_succ]
      exact ⟨hf, _, _, rfl⟩
  rintro τ' h' ⟨rfl, hf, z2, z3, rfl⟩
  have ed : cutD (es.map teD) (some 1) none = (es.map teD).drop 1 := cut_from
  simp (maxSteps := 4000000) (disch := decide) only [↓zdg, ↓zbx, ↓FL.then_nx, ↓FL.then_rt, ↓FL.then_bk, ↓FL.then_ct, ↓zbu, ↓zbv, ↓zcz, ↓zew, ↓zdc, ↓zex, ↓zdd, ↓zbw, ↓zev, ↓zeu, ↓zet, ↓zcy, ↓zda, ↓zdb, ↓zde, ↓zey, ↓zes, ↓zbi, ↓zfx, ↓zfy, ↓zci, ↓zcj, ↓zfp, ↓zbh, ↓zfh, ↓zfn, ↓zga, ↓zfl, ↓zdp, ↓zdo, ↓zfm, ↓zff, ↓zfk, ↓zgc, ↓zfd, ↓zgd, ↓zfq, ↓or1, ↓and2, ↓or2, ↓zdr, ↓zfs, ↓zds, ↓zft, ↓zfg, ↓zeg, ↓zcr, ↓zfo, ↓zfj, ↓zgb, ↓zfr, ↓zer, ↓zbk, ↓zge, ↓zfz, ↓zfi, ↓zdm, ↓zfe, ↓zdn, ↓zca, ↓zcb, ↓zfa, ↓zfv, ↓zez, ↓zfw, ↓zfc, ↓zfu, ↓zfb, ↓zdj, ↓zcd, ↓zdk, ↓zbl, ↓zdy, ↓zcf, ↓zdz, ↓zcg, ↓zch, ↓zbz, ↓zcc, ↓zdi, ↓zei, ↓zeh, ↓zdx, ↓zdw, ↓zdu, ↓zdq, ↓zea, ↓zcs, ↓zct, ↓zen, ↓zbg, ↓zcv, ↓zcu, ↓zcx, ↓zce, ↓reduceIte, and_self, ↓zbt, ↓zcq, ↓zbs, ↓zbm, ↓zdl, ↓zdf, ↓zby, ↓zec, ↓zed, ↓zee, ↓zef, ↓zdv, ↓zdt, ↓zem, ↓zek, ↓zel, ↓zej, ↓zcl, ↓zeb, ↓zck, ↓zcn, ↓zco, ↓zcm, ↓zbo, ↓zcp, ↓zbn, ↓zbq, ↓zbr, ↓zbp, ↓zal, ↓zak, ↓zai, ↓zba, ↓zaj, ↓zax, ↓zaw, ↓zau, ↓zbe, ↓zav, ↓zad, ↓zac, ↓zaa, ↓zay, ↓zab, ↓zap, ↓zao, ↓zam, ↓zbb, ↓zan, ↓zat, ↓zas, ↓zaq, ↓zbc, ↓zar, ↓zah, ↓zag, ↓zae, ↓zaz, ↓zaf, Bool.not_true, Bool.not_false, Bool.false_eq_true, zbf, zbd, ↓sl0, ↓sl1, ↓sl2, ↓sl3, ↓sl4, ↓sl5, ↓sl6, ↓sl7, ↓sl8, true_and, and_true, zbj, decide_true, decide_false, List.getElem?_cons_zero, List.getElem?_cons_succ, List.set_cons_zero, List.set_cons_succ, ed]
  refine for_sat (fun i τ h2 => h2 = h' ∧ (∀ j a b, j < i → es[j]? = some a → es[j + 1]? = some b → ordM kd a b = true) ∧ ∃ z2 z3, τ = [some (kS kd), some (.tup (es.map teD)), z2, z3]) ⟨rfl, (fun j a b z => absurd z (Nat.not_lt_zero _)), _, _, rfl⟩ (fun _ _ _ _ _ _ z => nomatch z) (fun i τ h2 d hd ⟨eh, ho, z2, z3, eτ⟩ => ?_) fun τ h2 ⟨eh, ho, z2, z3, eτ⟩ => ?_
  · subst eh eτ
    obtain ⟨a, b, e1, e2, rfl⟩ := zip_at hd
    refine ⟨_, rfl, ?_⟩
    simp (maxSteps := 4000000) (disch := decide) only [↓zdg, ↓zbx, ↓FL.then_nx, ↓FL.then_rt, ↓FL.then_bk, ↓FL.then_ct, ↓zbu, ↓zbv, ↓zcz, ↓zew, ↓zdc, ↓zex, ↓zdd, ↓zbw, ↓zev, ↓zeu, ↓zet, ↓zcy, ↓zda, ↓zdb, ↓zde, ↓zey, ↓zes, ↓zbi, ↓zfx, ↓zfy, ↓zci, ↓zcj, ↓zfp, ↓zbh, ↓zfh, ↓zfn, ↓zga, ↓zfl, ↓zdp, ↓zdo, ↓zfm, ↓zff, ↓zfk, ↓zgc, ↓zfd, ↓zgd, ↓zfq, ↓or1, ↓and2, ↓or2, ↓zdr, ↓zfs, ↓zds, ↓zft, ↓zfg, ↓zeg, ↓zcr, ↓zfo, ↓zfj, ↓zgb, ↓zfr, ↓zer, ↓zbk, ↓zge, ↓zfz, ↓zfi, ↓zdm, ↓zfe, ↓zdn, ↓zca, ↓zcb, ↓zfa, ↓zfv, ↓zez, ↓zfw, ↓zfc, ↓zfu, ↓zfb, ↓zdj, ↓zcd, ↓zdk, ↓zbl, ↓zdy, ↓zcf, ↓zdz, ↓zcg, ↓zch, ↓zbz, ↓zcc, ↓zdi, ↓zei, ↓zeh, ↓zdx, ↓zdw, ↓zdu, ↓zdq, ↓zea, ↓zcs, ↓zct, ↓zen, ↓zbg, ↓zcv, ↓zcu, ↓zcx, ↓zce, ↓reduceIte, and_self, ↓zbt, ↓zcq, ↓zbs, ↓zbm, ↓zdl, ↓zdf, ↓zby, ↓zec, ↓zed, ↓zee, ↓zef, ↓zdv, ↓zdt, ↓zem, ↓zek, ↓zel, ↓zej, ↓zcl, ↓zeb, ↓zck, ↓zcn, ↓zco, ↓zcm, ↓zbo, ↓zcp, ↓zbn, ↓zbq, ↓zbr, ↓zbp, ↓zal, ↓zak, ↓zai, ↓zba, ↓zaj, ↓zax, ↓zaw, ↓zau, ↓zbe, ↓zav, ↓zad, ↓zac, ↓zaa, ↓zay, ↓zab, ↓zap, ↓zao, ↓zam, ↓zbb, ↓zan, ↓zat, ↓zas, ↓zaq, ↓zbc, ↓zar, ↓zah, ↓zag, ↓zae, ↓zaz, ↓zaf, Bool.not_true, Bool.not_false, Bool.false_eq_true, zbf, zbd, ↓sl0, ↓sl1, ↓sl2, ↓sl3, ↓sl4, ↓sl5, ↓sl6, ↓sl7, ↓sl8, true_and, and_true, zbj, decide_true, decide_false, List.getElem?_cons_zero, List.getElem?_cons_succ, List.set_cons_zero, List.set_cons_succ, tt12_11, tt12_10, ↓v_is (in_order_e (hf a (List.mem_of_getElem? e1)) (hf b (List.mem_of_getElem? e2)) h2)]
    cases hb : ordM kd a b with
    | true =>
      simp (maxSteps := 4000000) (disch := decide) only [↓zdg, ↓zbx, ↓FL.then_nx, ↓FL.then_rt, ↓FL.then_bk, ↓FL.then_ct, ↓zbu, ↓zbv, ↓zcz, ↓zew, ↓zdc, ↓zex, ↓zdd, ↓zbw, ↓zev, ↓zeu, ↓zet, ↓zcy, ↓zda, ↓zdb, ↓zde, ↓zey, ↓zes, ↓zbi, ↓zfx, ↓zfy, ↓zci, ↓zcj, ↓zfp, ↓zbh, ↓zfh, ↓zfn, ↓zga, ↓zfl, ↓zdp, ↓zdo, ↓zfm, ↓zff, ↓zfk, ↓zgc, ↓zfd, ↓zgd, ↓zfq, ↓or1, ↓and2, ↓or2, ↓zdr, ↓zfs, ↓zds, ↓zft, ↓zfg, ↓zeg, ↓zcr, ↓zfo, ↓zfj, ↓zgb, ↓zfr, ↓zer, ↓zbk, ↓zge, ↓zfz, ↓zfi, ↓zdm, ↓zfe, ↓zdn, ↓zca, ↓zcb, ↓zfa, ↓zfv, ↓zez, ↓zfw, ↓zfc, ↓zfu, ↓zfb, ↓zdj, ↓zcd, ↓zdk, ↓zbl, ↓zdy, ↓zcf, ↓zdz, ↓zcg, ↓zch, ↓zbz, ↓zcc, ↓zdi, ↓zei, ↓zeh, ↓zdx, ↓zdw, ↓zdu, ↓zdq, ↓zea, ↓zcs, ↓zct, ↓zen, ↓zbg, ↓zcv, ↓zcu, ↓zcx, ↓zce, ↓reduceIte, and_self, ↓zbt, ↓zcq, ↓zbs, ↓zbm, ↓zdl, ↓zdf, ↓zby, ↓zec, ↓zed, ↓zee, ↓zef, ↓zdv, ↓zdt, ↓zem, ↓zek, ↓zel, ↓zej, ↓zcl, ↓zeb, ↓zck, ↓zcn, ↓zco, ↓zcm, ↓zbo, ↓zcp, ↓zbn, ↓zbq, ↓zbr, ↓zbp, ↓zal, ↓zak, ↓zai, ↓zba, ↓zaj, ↓zax, ↓zaw, ↓zau, ↓zbe, ↓zav, ↓zad, ↓zac, ↓zaa, ↓zay, ↓zab, ↓zap, ↓zao, ↓zam, ↓zbb, ↓zan, ↓zat, ↓zas, ↓zaq, ↓zbc, ↓zar, ↓zah, ↓zag, ↓zae, ↓zaz, ↓zaf, Bool.not_true, Bool.not_false, Bool.false_eq_true, zbf, zbd, ↓sl0, ↓sl1, ↓sl2, ↓sl3, ↓sl4, ↓sl5, ↓sl6, ↓sl7, ↓sl8, true_and, and_true, zbj, decide_true, decide_false, List.getElem?_cons_zero, List.getElem?_cons_succ, List.set_cons_zero, List.set_cons_succ]
      refine ⟨fun j a' b' hj e1' e2' => ?_, _, _, rfl⟩
      rcases Nat.lt_succ_iff_lt_or_eq.mp hj with z | z
      · exact ho j a' b' z e1' e2'
      · subst z
        rw [e1] at e1'
        rw [e2] at e2'
        cases e1'
        cases e2'
        exact hb
    | false =>
      simp (maxSteps := 4000000) (disch := decide) only [↓zdg, ↓zbx, ↓FL.then_nx, ↓FL.then_rt, ↓FL.then_bk, ↓FL.then_ct, ↓zbu, ↓zbv, ↓zcz, ↓zew, ↓zdc, ↓zex, ↓zdd, ↓zbw, ↓zev, ↓zeu, ↓zet, ↓zcy, ↓zda, ↓zdb, ↓zde, ↓zey, ↓zes, ↓zbi, ↓zfx, ↓zfy, ↓zci, ↓zcj, ↓zfp, ↓zbh, ↓zfh, ↓zfn, ↓zga, ↓zfl, ↓zdp, ↓zdo, ↓zfm, ↓zff, ↓zfk, ↓zgc, ↓zfd, ↓zgd, ↓zfq, ↓or1, ↓and2, ↓or2, ↓zdr, ↓zfs, ↓zds, ↓zft, ↓zfg, ↓zeg, ↓zcr, ↓zfo, ↓zfj, ↓zgb, ↓zfr, ↓zer, ↓zbk, ↓zge, ↓zfz, ↓zfi, ↓zdm, ↓zfe, ↓zdn, ↓zca, ↓zcb, ↓zfa, ↓zfv, ↓zez, ↓zfw, ↓zfc, ↓zfu, ↓zfb, ↓zdj, ↓zcd, ↓zdk, ↓zbl, ↓zdy, ↓zcf, ↓zdz, ↓zcg, ↓zch, ↓zbz, ↓zcc, ↓zdi, ↓zei, ↓zeh, ↓zdx, ↓zdw, ↓zdu, ↓zdq, ↓zea, ↓zcs, ↓zct, ↓zen, ↓zbg, ↓zcv, ↓zcu, ↓zcx, ↓zce, ↓reduceIte, and_self, ↓zbt, ↓zcq, ↓zbs, ↓zbm, ↓zdl, ↓zdf, ↓zby, ↓zec, ↓zed, ↓zee, ↓zef, ↓zdv, ↓zdt, ↓zem, ↓zek, ↓zel, ↓zej, ↓zcl, ↓zeb, ↓zck, ↓zcn, ↓zco, ↓zcm, ↓zbo, ↓zcp, ↓zbn, ↓zbq, ↓zbr, ↓zbp, ↓zal, ↓zak, ↓zai, ↓zba, ↓zaj, ↓zax, ↓zaw, ↓zau, ↓zbe, ↓zav, ↓zad, ↓zac, ↓zaa, ↓zay, ↓zab, ↓zap, ↓zao, ↓zam, ↓zbb, ↓zan, ↓zat, ↓zas, ↓zaq, ↓zbc, ↓zar, ↓zah, ↓zag, ↓zae, ↓zaz, ↓zaf, Bool.not_true, Bool.not_false, Bool.false_eq_true, zbf, zbd, ↓sl0, ↓sl1, ↓sl2, ↓sl3, ↓sl4, ↓sl5, ↓sl6, ↓sl7, ↓sl8, true_and, and_true, zbj, decide_true, decide_false, List.getElem?_cons_zero, List.getElem?_cons_succ, List.set_cons_zero, List.set_cons_succ]
      refine ⟨false, rfl, ⟨fun z => (nomatch z), fun z => ?_⟩, .refl⟩
      have := z.2 i a b e1 e2
      rw [hb] at this; cases this
  · subst eh eτ
    simp (maxSteps := 4000000) (disch := decide) only [↓zdg, ↓zbx, ↓FL.then_nx, ↓FL.then_rt, ↓FL.then_bk, ↓FL.then_ct, ↓zbu, ↓zbv, ↓zcz, ↓zew, ↓zdc, ↓zex, ↓zdd, ↓zbw, ↓zev, ↓zeu, ↓zet, ↓zcy, ↓zda, ↓zdb, ↓zde, ↓zey, ↓zes, ↓zbi, ↓zfx, ↓zfy, ↓zci, ↓zcj, ↓zfp, ↓zbh, ↓zfh, ↓zfn, ↓zga, ↓zfl, ↓zdp, ↓zdo, ↓zfm, ↓zff, ↓zfk, ↓zgc, ↓zfd, ↓zgd, ↓zfq, ↓or1, ↓and2, ↓or2, ↓zdr, ↓zfs, ↓zds, ↓zft, ↓zfg, ↓zeg, ↓zcr, ↓zfo, ↓zfj, ↓zgb, ↓zfr, ↓zer, ↓zbk, ↓zge, ↓zfz, ↓zfi, ↓zdm, ↓zfe, ↓zdn, ↓zca, ↓zcb, ↓zfa, ↓zfv, ↓zez, ↓zfw, ↓zfc, ↓zfu, ↓zfb, ↓zdj, ↓zcd, ↓zdk, ↓zbl, ↓zdy, ↓zcf, ↓zdz, ↓zcg, ↓zch, ↓zbz, ↓zcc, ↓zdi, ↓zei, ↓zeh, ↓zdx, ↓zdw, ↓zdu, ↓zdq, ↓zea, ↓zcs, ↓zct, ↓zen, ↓zbg, ↓zcv, ↓zcu, ↓zcx, ↓zce, ↓reduceIte, and_self, ↓zbt, ↓zcq, ↓zbs, ↓zbm, ↓zdl, ↓zdf, ↓zby, ↓zec, ↓zed, ↓zee, ↓zef, ↓zdv, ↓zdt, ↓zem, ↓zek, ↓zel, ↓zej, ↓zcl, ↓zeb, ↓zck, ↓zcn, ↓zco, ↓zcm, ↓zbo, ↓zcp, ↓zbn, ↓zbq, ↓zbr, ↓zbp, ↓zal, ↓zak, ↓zai, ↓zba, ↓zaj, ↓zax, ↓zaw, ↓zau, ↓zbe, ↓zav, ↓zad, ↓zac, ↓zaa, ↓zay, ↓zab, ↓zap, ↓zao, ↓zam, ↓zbb, ↓zan, ↓zat, ↓zas, ↓zaq, ↓zbc, ↓zar, ↓zah, ↓zag, ↓zae, ↓zaz, ↓zaf, Bool.not_true, Bool.not_false, Bool.false_eq_true, zbf, zbd, ↓sl0, ↓sl1, ↓sl2, ↓sl3, ↓sl4, ↓sl5, ↓sl6, ↓sl7, ↓sl8, true_and, and_true, zbj, decide_true, decide_false, List.getElem?_cons_zero, List.getElem?_cons_succ, List.set_cons_zero, List.set_cons_succ]
    exact ⟨true, rfl, ⟨fun _ => ⟨hf, fun i a b e1 e2 => ho i a b (zip_cnt e1 e2) e1 e2⟩, fun _ => rfl⟩, .refl⟩
end DL

set_option Elab.async false
set_option linter.all false
set_option maxRecDepth 100000
set_option maxHeartbeats 4000000
namespace DL
open PySem PySem.Spec PyProof.Rows L2
theorem te_at {es : List TEl} {i : Nat} {a : TEl} (e : es[i]? = some a) : atI (es.map teD) (i : Int) = some (teD a) := atI_nat (by rw [List.getElem?_map, e]; rfl)
theorem te_at1 {es : List TEl} {i : Nat} {a : TEl} (e : es[i + 1]? = some a) : atI (es.map teD) ((i : Int) + 1) = some (teD a) := te_at (i := i + 1) e
theorem not_le_lt {i j : Int} : (!decide (j < i)) = decide (i ≤ j) := by
  by_cases h : j < i
  · rw [decide_eq_true h, decide_eq_false (by omega)]; rfl
  · rw [decide_eq_false h, decide_eq_true (by omega)]; rfl
theorem rising_v {E : XP} {P : D → Hd → Prop} {kd : Kd} {es : List TEl} {h : Hd} (hl : es.length ≤ 500000) (hf : ∀ e ∈ es, fitsM kd e = true) (hk : kd ≠ .seq) (q : ∀ b, (b = true ↔ validP kd es) → P (.bl b) h) : vC (E := E) fF28 [.tup (es.map teD), kS kd] h P := by
  refine vC.mono (P := fun d h' => ∃ b, d = .bl b ∧ (b = true ↔ validP kd es) ∧ h' = h) ?_ fun d h' ⟨b, e, v, k⟩ => e ▸ k ▸ q b v
  refine runP_v (σ := [some (.tup (es.map teD)), some (kS kd), none, none, none]) (by rfl) (by rfl) ?_
  unfold bB28
  simp (maxSteps := 4000000) (disch := decide) only [↓zdg, ↓zbx, ↓FL.then_nx, ↓FL.then_rt, ↓FL.then_bk, ↓FL.then_ct, ↓zbu, ↓zbv, ↓zcz, ↓zew, ↓zdc, ↓zex, ↓zdd, ↓zbw, ↓zev, ↓zeu, ↓zet, ↓zcy, ↓zda, ↓zdb, ↓zde, ↓zey, ↓zes, ↓zbi, ↓zfx, ↓zfy, ↓zci, ↓zcj, ↓zfp, ↓zbh, ↓zfh, ↓zfn, ↓zga, ↓zfl, ↓zdp, ↓zdo, ↓zfm, ↓zff, ↓zfk, ↓zgc, ↓zfd, ↓zgd, ↓zfq, ↓or1, ↓and2, ↓or2, ↓zdr, ↓zfs, ↓zds, ↓zft, ↓zfg, ↓zeg, ↓zcr, ↓zfo, ↓zfj, ↓zgb, ↓zfr, ↓zer, ↓zbk, ↓zge, ↓zfz, ↓zfi, ↓zdm, ↓zfe, ↓zdn, ↓zca, ↓zcb, ↓zfa, ↓zfv, ↓zez, ↓zfw, ↓zfc, ↓zfu, ↓zfb, ↓zdj, ↓zcd, ↓zdk, ↓zbl, ↓zdy, ↓zcf, ↓zdz, ↓zcg, ↓zch, ↓zbz, ↓zcc, ↓zdi, ↓zei, ↓zeh, ↓zdx, ↓zdw, ↓zdu, ↓zdq, ↓zea, ↓zcs, ↓zct, ↓zen, ↓zbg, ↓zcv, ↓zcu, ↓zcx, ↓zce, ↓reduceIte, and_self, ↓zbt, ↓zcq, ↓zbs, ↓zbm, ↓zdl, ↓zdf, ↓zby, ↓zec, ↓zed, ↓zee, ↓zef, ↓zdv, ↓zdt, ↓zem, ↓zek, ↓zel, ↓zej, ↓zcl, ↓zeb, ↓zck, ↓zcn, ↓zco, ↓zcm, ↓zbo, ↓zcp, ↓zbn, ↓zbq, ↓zbr, ↓zbp, ↓zal, ↓zak, ↓zai, ↓zba, ↓zaj, ↓zax, ↓zaw, ↓zau, ↓zbe, ↓zav, ↓zad, ↓zac, ↓zaa, ↓zay, ↓zab, ↓zap, ↓zao, ↓zam, ↓zbb, ↓zan, ↓zat, ↓zas, ↓zaq, ↓zbc, ↓zar, ↓zah, ↓zag, ↓zae, ↓zaz, ↓zaf, Bool.not_true, Bool.not_false, Bool.false_eq_true, zbf, zbd, ↓sl0, ↓sl1, ↓sl2, ↓sl3, ↓sl4, ↓sl5, ↓sl6, ↓sl7, ↓sl8, true_and, and_true, zbj, decide_true, decide_false, List.getElem?_cons_zero, List.getElem?_cons_succ, List.set_cons_zero, List.set_cons_succ, List.length_map]
  refine rngD_z (by omega) (by omega) ?_
  refine for_sat (fun i τ h2 => h2 = h ∧ (∀ j a b, j < i → es[j]? = some a → es[j + 1]? = some b → ordM kd a b = true) ∧ ∃ z2 z3 z4, τ = [some (.tup (es.map teD)), some (kS kd), z2, z3, z4]) ⟨rfl, (fun j a b z => absurd z (Nat.not_lt_zero _)), _, _, _, rfl⟩ (fun _ _ _ _ _ _ z => nomatch z) (fun i τ h2 d hd ⟨eh, ho, z2, z3, z4, eτ⟩ => ?_) fun τ h2 ⟨eh, ho, z2, z3, z4, eτ⟩ => ?_
  · subst eh eτ
    obtain ⟨hi, rfl⟩ := rng_get hd
    have hi1 : i + 1 < es.length := by omega
    have e1 : es[i]? = some es[i] := List.getElem?_eq_getElem (by omega)
    have e2 : es[i + 1]? = some es[i + 1] := List.getElem?_eq_getElem hi1
    have f1 := hf _ (List.mem_of_getElem? e1)
    have f2 := hf _ (List.mem_of_getElem? e2)
    revert e1 e2 f1 f2
    generalize es[i] = a
    generalize es[i + 1] = b
    intro e1 e2 f1 f2
    refine ⟨_, rfl, ?_⟩
    have yes : ordM kd a b = true → (∀ j a b, j < i + 1 → es[j]? = some a → es[j + 1]? = some b → ordM kd a b = true) := fun hb j a' b' hj e1' e2' => by
      rcases Nat.lt_succ_iff_lt_or_eq.mp hj with z | z
      · exact ho j a' b' z e1' e2'
      · subst z
        rw [e1] at e1'
        rw [e2] at e2'
        cases e1'
        cases e2'
        exact hb
    have no : ordM kd a b = false → (false = true ↔ validP kd es) := fun hb => ⟨fun z => (nomatch z), fun z => by
      have := z.2 i a b e1 e2
      rw [hb] at this; cases this⟩
    simp (maxSteps := 4000000) (disch := decide) only [↓zdg, ↓zbx, ↓FL.then_nx, ↓FL.then_rt, ↓FL.then_bk, ↓FL.then_ct, ↓zbu, ↓zbv, ↓zcz, ↓zew, ↓zdc, ↓zex, ↓zdd, ↓zbw, ↓zev, ↓zeu, ↓zet, ↓zcy, ↓zda, ↓zdb, ↓zde, ↓zey, ↓zes, ↓zbi, ↓zfx, ↓zfy, ↓zci, ↓zcj, ↓zfp, ↓zbh, ↓zfh, ↓zfn, ↓zga, ↓zfl, ↓zdp, ↓zdo, ↓zfm, ↓zff, ↓zfk, ↓zgc, ↓zfd, ↓zgd, ↓zfq, ↓or1, ↓and2, ↓or2, ↓zdr, ↓zfs, ↓zds, ↓zft, ↓zfg, ↓zeg, ↓zcr, ↓zfo, ↓zfj, ↓zgb, ↓zfr, ↓zer, ↓zbk, ↓zge, ↓zfz, ↓zfi, ↓zdm, ↓zfe, ↓zdn, ↓zca, ↓zcb, ↓zfa, ↓zfv, ↓zez, ↓zfw, ↓zfc, ↓zfu, ↓zfb, ↓zdj, ↓zcd, ↓zdk, ↓zbl, ↓zdy, ↓zcf, ↓zdz, ↓zcg, ↓zch, ↓zbz, ↓zcc, ↓zdi, ↓zei, ↓zeh, ↓zdx, ↓zdw, ↓zdu, ↓zdq, ↓zea, ↓zcs, ↓zct, ↓zen, ↓zbg, ↓zcv, ↓zcu, ↓zcx, ↓zce, ↓reduceIte, and_self, ↓zbt, ↓zcq, ↓zbs, ↓zbm, ↓zdl, ↓zdf, ↓zby, ↓zec, ↓zed, ↓zee, ↓zef, ↓zdv, ↓zdt, ↓zem, ↓zek, ↓zel, ↓zej, ↓zcl, ↓zeb, ↓zck, ↓zcn, ↓zco, ↓zcm, ↓zbo, ↓zcp, ↓zbn, ↓zbq, ↓zbr, ↓zbp, ↓zal, ↓zak, ↓zai, ↓zba, ↓zaj, ↓zax, ↓zaw, ↓zau, ↓zbe, ↓zav, ↓zad, ↓zac, ↓zaa, ↓zay, ↓zab, ↓zap, ↓zao, ↓zam, ↓zbb, ↓zan, ↓zat, ↓zas, ↓zaq, ↓zbc, ↓zar, ↓zah, ↓zag, ↓zae, ↓zaz, ↓zaf, Bool.not_true, Bool.not_false, Bool.false_eq_true, zbf, zbd, ↓sl0, ↓sl1, ↓sl2, ↓sl3, ↓sl4, ↓sl5, ↓sl6, ↓sl7, ↓sl8, true_and, and_true, zbj, decide_true, decide_false, List.getElem?_cons_zero, List.getElem?_cons_succ, List.set_cons_zero, List.set_cons_succ, ↓ix_tup (te_at e1), ↓ix_tup (te_at1 e2)]
    cases a with
    | sc k => cases kd <;> first | exact absurd rfl hk | cases f1
    | pr a1 a2 => cases b with
      | sc k => cases kd <;> first | exact absurd rfl hk | cases f2
      | pr b1 b2 =>
        cases kd with
        | seq => exact absurd rfl hk
        | map =>
          simp (maxSteps := 4000000) (disch := decide) only [↓zdg, ↓zbx, ↓FL.then_nx, ↓FL.then_rt, ↓FL.then_bk, ↓FL.then_ct, ↓zbu, ↓zbv, ↓zcz, ↓zew, ↓zdc, ↓zex, ↓zdd, ↓zbw, ↓zev, ↓zeu, ↓zet, ↓zcy, ↓zda, ↓zdb, ↓zde, ↓zey, ↓zes, ↓zbi, ↓zfx, ↓zfy, ↓zci, ↓zcj, ↓zfp, ↓zbh, ↓zfh, ↓zfn, ↓zga, ↓zfl, ↓zdp, ↓zdo, ↓zfm, ↓zff, ↓zfk, ↓zgc, ↓zfd, ↓zgd, ↓zfq, ↓or1, ↓and2, ↓or2, ↓zdr, ↓zfs, ↓zds, ↓zft, ↓zfg, ↓zeg, ↓zcr, ↓zfo, ↓zfj, ↓zgb, ↓zfr, ↓zer, ↓zbk, ↓zge, ↓zfz, ↓zfi, ↓zdm, ↓zfe, ↓zdn, ↓zca, ↓zcb, ↓zfa, ↓zfv, ↓zez, ↓zfw, ↓zfc, ↓zfu, ↓zfb, ↓zdj, ↓zcd, ↓zdk, ↓zbl, ↓zdy, ↓zcf, ↓zdz, ↓zcg, ↓zch, ↓zbz, ↓zcc, ↓zdi, ↓zei, ↓zeh, ↓zdx, ↓zdw, ↓zdu, ↓zdq, ↓zea, ↓zcs, ↓zct, ↓zen, ↓zbg, ↓zcv, ↓zcu, ↓zcx, ↓zce, ↓reduceIte, and_self, ↓zbt, ↓zcq, ↓zbs, ↓zbm, ↓zdl, ↓zdf, ↓zby, ↓zec, ↓zed, ↓zee, ↓zef, ↓zdv, ↓zdt, ↓zem, ↓zek, ↓zel, ↓zej, ↓zcl, ↓zeb, ↓zck, ↓zcn, ↓zco, ↓zcm, ↓zbo, ↓zcp, ↓zbn, ↓zbq, ↓zbr, ↓zbp, ↓zal, ↓zak, ↓zai, ↓zba, ↓zaj, ↓zax, ↓zaw, ↓zau, ↓zbe, ↓zav, ↓zad, ↓zac, ↓zaa, ↓zay, ↓zab, ↓zap, ↓zao, ↓zam, ↓zbb, ↓zan, ↓zat, ↓zas, ↓zaq, ↓zbc, ↓zar, ↓zah, ↓zag, ↓zae, ↓zaz, ↓zaf, Bool.not_true, Bool.not_false, Bool.false_eq_true, zbf, zbd, ↓sl0, ↓sl1, ↓sl2, ↓sl3, ↓sl4, ↓sl5, ↓sl6, ↓sl7, ↓sl8, true_and, and_true, zbj, decide_true, decide_false, List.getElem?_cons_zero, List.getElem?_cons_succ, List.set_cons_zero, List.set_cons_succ, kS, teD, tt28_20, ↓v_is (order_e a1 h2), ↓v_is (order_e b1 h2), ↓lt_ord, k5, k6]
          have eo : ordM .map (.pr a1 a2) (.pr b1 b2) = ltK a1 b1 := rfl
          cases hb : ltK a1 b1 with
          | true => simp (maxSteps := 4000000) (disch := decide) only [↓zdg, ↓zbx, ↓FL.then_nx, ↓FL.then_rt, ↓FL.then_bk, ↓FL.then_ct, ↓zbu, ↓zbv, ↓zcz, ↓zew, ↓zdc, ↓zex, ↓zdd, ↓zbw, ↓zev, ↓zeu, ↓zet, ↓zcy, ↓zda, ↓zdb, ↓zde, ↓zey, ↓zes, ↓zbi, ↓zfx, ↓zfy, ↓zci, ↓zcj, ↓zfp, ↓zbh, ↓zfh, ↓zfn, ↓zga, ↓zfl, ↓zdp, ↓zdo, ↓zfm, ↓zff, ↓zfk, ↓zgc, ↓zfd, ↓zgd, ↓zfq, ↓or1, ↓and2, ↓or2, ↓zdr, ↓zfs, ↓zds, ↓zft, ↓zfg, ↓zeg, ↓zcr, ↓zfo, ↓zfj, ↓zgb, ↓zfr, ↓zer, ↓zbk, ↓zge, ↓zfz, ↓zfi, ↓zdm, ↓zfe, ↓zdn, ↓zca, ↓zcb, ↓zfa, ↓zfv, ↓zez, ↓zfw, ↓zfc, ↓zfu, ↓zfb, ↓zdj, ↓zcd, ↓zdk, ↓zbl, ↓zdy, ↓zcf, ↓zdz, ↓zcg, ↓zch, ↓zbz, ↓zcc, ↓zdi, ↓zei, ↓zeh, ↓zdx, ↓zdw, ↓zdu, ↓zdq, ↓zea, ↓zcs, ↓zct, ↓zen, ↓zbg, ↓zcv, ↓zcu, ↓zcx, ↓zce, ↓reduceIte, and_self, ↓zbt, ↓zcq, ↓zbs, ↓zbm, ↓zdl, ↓zdf, ↓zby, ↓zec, ↓zed, ↓zee, ↓zef, ↓zdv, ↓zdt, ↓zem, ↓zek, ↓zel, ↓zej, ↓zcl, ↓zeb, ↓zck, ↓zcn, ↓zco, ↓zcm, ↓zbo, ↓zcp, ↓zbn, ↓zbq, ↓zbr, ↓zbp, ↓zal, ↓zak, ↓zai, ↓zba, ↓zaj, ↓zax, ↓zaw, ↓zau, ↓zbe, ↓zav, ↓zad, ↓zac, ↓zaa, ↓zay, ↓zab, ↓zap, ↓zao, ↓zam, ↓zbb, ↓zan, ↓zat, ↓zas, ↓zaq, ↓zbc, ↓zar, ↓zah, ↓zag, ↓zae, ↓zaz, ↓zaf, Bool.not_true, Bool.not_false, Bool.false_eq_true, zbf, zbd, ↓sl0, ↓sl1, ↓sl2, ↓sl3, ↓sl4, ↓sl5, ↓sl6, ↓sl7, ↓sl8, true_and, and_true, zbj, decide_true, decide_false, List.getElem?_cons_zero, List.getElem?_cons_succ, List.set_cons_zero, List.set_cons_succ, hb]; exact ⟨yes (eo.trans hb), _, _, _, rfl⟩
          | false => simp (maxSteps := 4000000) (disch := decide) only [↓zdg, ↓zbx, ↓FL.then_nx, ↓FL.then_rt, ↓FL.then_bk, ↓FL.then_ct, ↓zbu, ↓zbv, ↓zcz, ↓zew, ↓zdc, ↓zex, ↓zdd, ↓zbw, ↓zev, ↓zeu, ↓zet, ↓zcy, ↓zda, ↓zdb, ↓zde, ↓zey, ↓zes, ↓zbi, ↓zfx, ↓zfy, ↓zci, ↓zcj, ↓zfp, ↓zbh, ↓zfh, ↓zfn, ↓zga, ↓zfl, ↓zdp, ↓zdo, ↓zfm, ↓zff, ↓zfk, ↓zgc, ↓zfd, ↓zgd, ↓zfq, ↓or1, ↓and2, ↓or2, ↓zdr, ↓zfs, ↓zds, ↓zft, ↓zfg, ↓zeg, ↓zcr, ↓zfo, ↓zfj, ↓zgb, ↓zfr, ↓zer, ↓zbk, ↓zge, ↓zfz, ↓zfi, ↓zdm, ↓zfe, ↓zdn, ↓zca, ↓zcb, ↓zfa, ↓zfv, ↓zez, ↓zfw, ↓zfc, ↓zfu, ↓zfb, ↓zdj, ↓zcd, ↓zdk, ↓zbl, ↓zdy, ↓zcf, ↓zdz, ↓zcg, ↓zch, ↓zbz, ↓zcc, ↓zdi, ↓zei, ↓zeh, ↓zdx, ↓zdw, ↓zdu, ↓zdq, ↓zea, ↓zcs, ↓zct, ↓zen, ↓zbg, ↓zcv, ↓zcu, ↓zcx, ↓zce, ↓reduceIte, and_self, ↓zbt, ↓zcq, ↓zbs, ↓zbm, ↓zdl, ↓zdf, ↓zby, ↓zec, ↓zed, ↓zee, ↓zef, ↓zdv, ↓zdt, ↓zem, ↓zek, ↓zel, ↓zej, ↓zcl, ↓zeb, ↓zck, ↓zcn, ↓zco, ↓zcm, ↓zbo, ↓zcp, ↓zbn, ↓zbq, ↓zbr, ↓zbp, ↓zal, ↓zak, ↓zai, ↓zba, ↓zaj, ↓zax, ↓zaw, ↓zau, ↓zbe, ↓zav, ↓zad, ↓zac, ↓zaa, ↓zay, ↓zab, ↓zap, ↓zao, ↓zam, ↓zbb, ↓zan, ↓zat, ↓zas, ↓zaq, ↓zbc, ↓zar, ↓zah, ↓zag, ↓zae, ↓zaz, ↓zaf, Bool.not_true, Bool.not_false, Bool.false_eq_true, zbf, zbd, ↓sl0, ↓sl1, ↓sl2, ↓sl3, ↓sl4, ↓sl5, ↓sl6, ↓sl7, ↓sl8, true_and, and_true, zbj, decide_true, decide_false, List.getElem?_cons_zero, List.getElem?_cons_succ, List.set_cons_zero, List.set_cons_succ, hb]; exact ⟨false, rfl, no (eo.trans hb)⟩
        | que =>
          cases a1 with
          | inr x => cases f1
          | inl i1 => cases b1 with
            | inr x => cases f2
            | inl j1 =>
              simp (maxSteps := 4000000) (disch := decide) only [↓zdg, ↓zbx, ↓FL.then_nx, ↓FL.then_rt, ↓FL.then_bk, ↓FL.then_ct, ↓zbu, ↓zbv, ↓zcz, ↓zew, ↓zdc, ↓zex, ↓zdd, ↓zbw, ↓zev, ↓zeu, ↓zet, ↓zcy, ↓zda, ↓zdb, ↓zde, ↓zey, ↓zes, ↓zbi, ↓zfx, ↓zfy, ↓zci, ↓zcj, ↓zfp, ↓zbh, ↓zfh, ↓zfn, ↓zga, ↓zfl, ↓zdp, ↓zdo, ↓zfm, ↓zff, ↓zfk, ↓zgc, ↓zfd, ↓zgd, ↓zfq, ↓or1, ↓and2, ↓or2, ↓zdr, ↓zfs, ↓zds, ↓zft, ↓zfg, ↓zeg, ↓zcr, ↓zfo, ↓zfj, ↓zgb, ↓zfr, ↓zer, ↓zbk, ↓zge, ↓zfz, ↓zfi, ↓zdm, ↓zfe, ↓zdn, ↓zca, ↓zcb, ↓zfa, ↓zfv, ↓zez, ↓zfw, ↓zfc, ↓zfu, ↓zfb, ↓zdj, ↓zcd, ↓zdk, ↓zbl, ↓zdy, ↓zcf, ↓zdz, ↓zcg, ↓zch, ↓zbz, ↓zcc, ↓zdi, ↓zei, ↓zeh, ↓zdx, ↓zdw, ↓zdu, ↓zdq, ↓zea, ↓zcs, ↓zct, ↓zen, ↓zbg, ↓zcv, ↓zcu, ↓zcx, ↓zce, ↓reduceIte, and_self, ↓zbt, ↓zcq, ↓zbs, ↓zbm, ↓zdl, ↓zdf, ↓zby, ↓zec, ↓zed, ↓zee, ↓zef, ↓zdv, ↓zdt, ↓zem, ↓zek, ↓zel, ↓zej, ↓zcl, ↓zeb, ↓zck, ↓zcn, ↓zco, ↓zcm, ↓zbo, ↓zcp, ↓zbn, ↓zbq, ↓zbr, ↓zbp, ↓zal, ↓zak, ↓zai, ↓zba, ↓zaj, ↓zax, ↓zaw, ↓zau, ↓zbe, ↓zav, ↓zad, ↓zac, ↓zaa, ↓zay, ↓zab, ↓zap, ↓zao, ↓zam, ↓zbb, ↓zan, ↓zat, ↓zas, ↓zaq, ↓zbc, ↓zar, ↓zah, ↓zag, ↓zae, ↓zaz, ↓zaf, Bool.not_true, Bool.not_false, Bool.false_eq_true, zbf, zbd, ↓sl0, ↓sl1, ↓sl2, ↓sl3, ↓sl4, ↓sl5, ↓sl6, ↓sl7, ↓sl8, true_and, and_true, zbj, decide_true, decide_false, List.getElem?_cons_zero, List.getElem?_cons_succ, List.set_cons_zero, List.set_cons_succ, kS, teD, kD, k8, k9]
              have eo : ordM .que (.pr (.inl i1) a2) (.pr (.inl j1) b2) = !decide (j1 < i1) := not_le_lt.symm
              by_cases hb : j1 < i1
              · simp (maxSteps := 4000000) (disch := decide) only [↓zdg, ↓zbx, ↓FL.then_nx, ↓FL.then_rt, ↓FL.then_bk, ↓FL.then_ct, ↓zbu, ↓zbv, ↓zcz, ↓zew, ↓zdc, ↓zex, ↓zdd, ↓zbw, ↓zev, ↓zeu, ↓zet, ↓zcy, ↓zda, ↓zdb, ↓zde, ↓zey, ↓zes, ↓zbi, ↓zfx, ↓zfy, ↓zci, ↓zcj, ↓zfp, ↓zbh, ↓zfh, ↓zfn, ↓zga, ↓zfl, ↓zdp, ↓zdo, ↓zfm, ↓zff, ↓zfk, ↓zgc, ↓zfd, ↓zgd, ↓zfq, ↓or1, ↓and2, ↓or2, ↓zdr, ↓zfs, ↓zds, ↓zft, ↓zfg, ↓zeg, ↓zcr, ↓zfo, ↓zfj, ↓zgb, ↓zfr, ↓zer, ↓zbk, ↓zge, ↓zfz, ↓zfi, ↓zdm, ↓zfe, ↓zdn, ↓zca, ↓zcb, ↓zfa, ↓zfv, ↓zez, ↓zfw, ↓zfc, ↓zfu, ↓zfb, ↓zdj, ↓zcd, ↓zdk, ↓zbl, ↓zdy, ↓zcf, ↓zdz, ↓zcg, ↓zch, ↓zbz, ↓zcc, ↓zdi, ↓zei, ↓zeh, ↓zdx, ↓zdw, ↓zdu, ↓zdq, ↓zea, ↓zcs, ↓zct, ↓zen, ↓zbg, ↓zcv, ↓zcu, ↓zcx, ↓zce, ↓reduceIte, and_self, ↓zbt, ↓zcq, ↓zbs, ↓zbm, ↓zdl, ↓zdf, ↓zby, ↓zec, ↓zed, ↓zee, ↓zef, ↓zdv, ↓zdt, ↓zem, ↓zek, ↓zel, ↓zej, ↓zcl, ↓zeb, ↓zck, ↓zcn, ↓zco, ↓zcm, ↓zbo, ↓zcp, ↓zbn, ↓zbq, ↓zbr, ↓zbp, ↓zal, ↓zak, ↓zai, ↓zba, ↓zaj, ↓zax, ↓zaw, ↓zau, ↓zbe, ↓zav, ↓zad, ↓zac, ↓zaa, ↓zay, ↓zab, ↓zap, ↓zao, ↓zam, ↓zbb, ↓zan, ↓zat, ↓zas, ↓zaq, ↓zbc, ↓zar, ↓zah, ↓zag, ↓zae, ↓zaz, ↓zaf, Bool.not_true, Bool.not_false, Bool.false_eq_true, zbf, zbd, ↓sl0, ↓sl1, ↓sl2, ↓sl3, ↓sl4, ↓sl5, ↓sl6, ↓sl7, ↓sl8, true_and, and_true, zbj, decide_true, decide_false, List.getElem?_cons_zero, List.getElem?_cons_succ, List.set_cons_zero, List.set_cons_succ, hb]; exact ⟨false, rfl, no (by rw [eo, decide_eq_true hb]; rfl)⟩
              · simp (maxSteps := 4000000) (disch := decide) only [↓zdg, ↓zbx, ↓FL.then_nx, ↓FL.then_rt, ↓FL.then_bk, ↓FL.then_ct, ↓zbu, ↓zbv, ↓zcz, ↓zew, ↓zdc, ↓zex, ↓zdd, ↓zbw, ↓zev, ↓zeu, ↓zet, ↓zcy, ↓zda, ↓zdb, ↓zde, ↓zey, ↓zes, ↓zbi, ↓zfx, ↓zfy, ↓zci, ↓zcj, ↓zfp, ↓zbh, ↓zfh, ↓zfn, ↓zga, ↓zfl, ↓zdp, ↓zdo, ↓zfm, ↓zff, ↓zfk, ↓zgc, ↓zfd, ↓zgd, ↓zfq, ↓or1, ↓and2, ↓or2, ↓zdr, ↓zfs, ↓zds, ↓zft, ↓zfg, ↓zeg, ↓zcr, ↓zfo, ↓zfj, ↓zgb, ↓zfr, ↓zer, ↓zbk, ↓zge, ↓zfz, ↓zfi, ↓zdm, ↓zfe, ↓zdn, ↓zca, ↓zcb, ↓zfa, ↓zfv, ↓zez, ↓zfw, ↓zfc, ↓zfu, ↓zfb, ↓zdj, ↓zcd, ↓zdk, ↓zbl, ↓zdy, ↓zcf, ↓zdz, ↓zcg, ↓zch, ↓zbz, ↓zcc, ↓zdi, ↓zei, ↓zeh, ↓zdx, ↓zdw, ↓zdu, ↓zdq, ↓zea, ↓zcs, ↓zct, ↓zen, ↓zbg, ↓zcv, ↓zcu, ↓zcx, ↓zce, ↓reduceIte, and_self, ↓zbt, ↓zcq, ↓zbs, ↓zbm, ↓zdl, ↓zdf, ↓zby, ↓zec, ↓zed, ↓zee, ↓zef, ↓zdv, ↓zdt, ↓zem, ↓zek, ↓zel, ↓zej, ↓zcl, ↓zeb, ↓zck, ↓zcn, ↓zco, ↓zcm, ↓zbo, ↓zcp, ↓zbn, ↓zbq, ↓zbr, ↓zbp, ↓zal, ↓zak, ↓zai, ↓zba, ↓zaj, ↓zax, ↓zaw, ↓zau, ↓zbe, ↓zav, ↓zad, ↓zac, ↓zaa, ↓zay, ↓zab, ↓zap, ↓zao, ↓zam, ↓zbb, ↓zan, ↓zat, ↓zas, ↓zaq, ↓zbc, ↓zar, ↓zah, ↓zag, ↓zae, ↓zaz, ↓zaf, Bool.not_true, Bool.not_false, Bool.false_eq_true, zbf, zbd, ↓sl0, ↓sl1, ↓sl2, ↓sl3, ↓sl4, ↓sl5, ↓sl6, ↓sl7, ↓sl8, true_and, and_true, zbj, decide_true, decide_false, List.getElem?_cons_zero, List.getElem?_cons_succ, List.set_cons_zero, List.set_cons_succ, hb]; exact ⟨yes (by rw [eo, decide_eq_false hb]; rfl), _, _, _, rfl⟩
        | ivl =>
          cases a1 with
          | inr x => cases f1
          | inl i1 => cases b1 with
            | inr x => cases f2
            | inl j1 => cases a2 with
              | inr x => cases f1
              | inl i2 =>
                simp (maxSteps := 4000000) (disch := decide) only [↓zdg, ↓zbx, ↓FL.then_nx, ↓FL.then_rt, ↓FL.then_bk, ↓FL.then_ct, ↓zbu, ↓zbv, ↓zcz, ↓zew, ↓zdc, ↓zex, ↓zdd, ↓zbw, ↓zev, ↓zeu, ↓zet, ↓zcy, ↓zda, ↓zdb, ↓zde, ↓zey, ↓zes, ↓zbi, ↓zfx, ↓zfy, ↓zci, ↓zcj, ↓zfp, ↓zbh, ↓zfh, ↓zfn, ↓zga, ↓zfl, ↓zdp, ↓zdo, ↓zfm, ↓zff, ↓zfk, ↓zgc, ↓zfd, ↓zgd, ↓zfq, ↓or1, ↓and2, ↓or2, ↓zdr, ↓zfs, ↓zds, ↓zft, ↓zfg, ↓zeg, ↓zcr, ↓zfo, ↓zfj, ↓zgb, ↓zfr, ↓zer, ↓zbk, ↓zge, ↓zfz, ↓zfi, ↓zdm, ↓zfe, ↓zdn, ↓zca, ↓zcb, ↓zfa, ↓zfv, ↓zez, ↓zfw, ↓zfc, ↓zfu, ↓zfb, ↓zdj, ↓zcd, ↓zdk, ↓zbl, ↓zdy, ↓zcf, ↓zdz, ↓zcg, ↓zch, ↓zbz, ↓zcc, ↓zdi, ↓zei, ↓zeh, ↓zdx, ↓zdw, ↓zdu, ↓zdq, ↓zea, ↓zcs, ↓zct, ↓zen, ↓zbg, ↓zcv, ↓zcu, ↓zcx, ↓zce, ↓reduceIte, and_self, ↓zbt, ↓zcq, ↓zbs, ↓zbm, ↓zdl, ↓zdf, ↓zby, ↓zec, ↓zed, ↓zee, ↓zef, ↓zdv, ↓zdt, ↓zem, ↓zek, ↓zel, ↓zej, ↓zcl, ↓zeb, ↓zck, ↓zcn, ↓zco, ↓zcm, ↓zbo, ↓zcp, ↓zbn, ↓zbq, ↓zbr, ↓zbp, ↓zal, ↓zak, ↓zai, ↓zba, ↓zaj, ↓zax, ↓zaw, ↓zau, ↓zbe, ↓zav, ↓zad, ↓zac, ↓zaa, ↓zay, ↓zab, ↓zap, ↓zao, ↓zam, ↓zbb, ↓zan, ↓zat, ↓zas, ↓zaq, ↓zbc, ↓zar, ↓zah, ↓zag, ↓zae, ↓zaz, ↓zaf, Bool.not_true, Bool.not_false, Bool.false_eq_true, zbf, zbd, ↓sl0, ↓sl1, ↓sl2, ↓sl3, ↓sl4, ↓sl5, ↓sl6, ↓sl7, ↓sl8, true_and, and_true, zbj, decide_true, decide_false, List.getElem?_cons_zero, List.getElem?_cons_succ, List.set_cons_zero, List.set_cons_succ, kS, teD, kD, k11, k12]
                have eo : ordM .ivl (.pr (.inl i1) (.inl i2)) (.pr (.inl j1) b2) = decide (i2 < j1) := rfl
                by_cases hb : j1 ≤ i2
                · simp (maxSteps := 4000000) (disch := decide) only [↓zdg, ↓zbx, ↓FL.then_nx, ↓FL.then_rt, ↓FL.then_bk, ↓FL.then_ct, ↓zbu, ↓zbv, ↓zcz, ↓zew, ↓zdc, ↓zex, ↓zdd, ↓zbw, ↓zev, ↓zeu, ↓zet, ↓zcy, ↓zda, ↓zdb, ↓zde, ↓zey, ↓zes, ↓zbi, ↓zfx, ↓zfy, ↓zci, ↓zcj, ↓zfp, ↓zbh, ↓zfh, ↓zfn, ↓zga, ↓zfl, ↓zdp, ↓zdo, ↓zfm, ↓zff, ↓zfk, ↓zgc, ↓zfd, ↓zgd, ↓zfq, ↓or1, ↓and2, ↓or2, ↓zdr, ↓zfs, ↓zds, ↓zft, ↓zfg, ↓zeg, ↓zcr, ↓zfo, ↓zfj, ↓zgb, ↓zfr, ↓zer, ↓zbk, ↓zge, ↓zfz, ↓zfi, ↓zdm, ↓zfe, ↓zdn, ↓zca, ↓zcb, ↓zfa, ↓zfv, ↓zez, ↓zfw, ↓zfc, ↓zfu, ↓zfb, ↓zdj, ↓zcd, ↓zdk, ↓zbl, ↓zdy, ↓zcf, ↓zdz, ↓zcg, ↓zch, ↓zbz, ↓zcc, ↓zdi, ↓zei, ↓zeh, ↓zdx, ↓zdw, ↓zdu, ↓zdq, ↓zea, ↓zcs, ↓zct, ↓zen, ↓zbg, ↓zcv, ↓zcu, ↓zcx, ↓zce, ↓reduceIte, and_self, ↓zbt, ↓zcq, ↓zbs, ↓zbm, ↓zdl, ↓zdf, ↓zby, ↓zec, ↓zed, ↓zee, ↓zef, ↓zdv, ↓zdt, ↓zem, ↓zek, ↓zel, ↓zej, ↓zcl, ↓zeb, ↓zck, ↓zcn, ↓zco, ↓zcm, ↓zbo, ↓zcp, ↓zbn, ↓zbq, ↓zbr, ↓zbp, ↓zal, ↓zak, ↓zai, ↓zba, ↓zaj, ↓zax, ↓zaw, ↓zau, ↓zbe, ↓zav, ↓zad, ↓zac, ↓zaa, ↓zay, ↓zab, ↓zap, ↓zao, ↓zam, ↓zbb, ↓zan, ↓zat, ↓zas, ↓zaq, ↓zbc, ↓zar, ↓zah, ↓zag, ↓zae, ↓zaz, ↓zaf, Bool.not_true, Bool.not_false, Bool.false_eq_true, zbf, zbd, ↓sl0, ↓sl1, ↓sl2, ↓sl3, ↓sl4, ↓sl5, ↓sl6, ↓sl7, ↓sl8, true_and, and_true, zbj, decide_true, decide_false, List.getElem?_cons_zero, List.getElem?_cons_succ, List.set_cons_zero, List.set_cons_succ, hb]; exact ⟨false, rfl, no (by rw [eo]; exact decide_eq_false (by omega))⟩
                · simp (maxSteps := 4000000) (disch := decide) only [↓zdg, ↓zbx, ↓FL.then_nx, ↓FL.then_rt, ↓FL.then_bk, ↓FL.then_ct, ↓zbu, ↓zbv, ↓zcz, ↓zew, ↓zdc, ↓zex, ↓zdd, ↓zbw, ↓zev, ↓zeu, ↓zet, ↓zcy, ↓zda, ↓zdb, ↓zde, ↓zey, ↓zes, ↓zbi, ↓zfx, ↓zfy, ↓zci, ↓zcj, ↓zfp, ↓zbh, ↓zfh, ↓zfn, ↓zga, ↓zfl, ↓zdp, ↓zdo, ↓zfm, ↓zff, ↓zfk, ↓zgc, ↓zfd, ↓zgd, ↓zfq, ↓or1, ↓and2, ↓or2, ↓zdr, ↓zfs, ↓zds, ↓zft, ↓zfg, ↓zeg, ↓zcr, ↓zfo, ↓zfj, ↓zgb, ↓zfr, ↓zer, ↓zbk, ↓zge, ↓zfz, ↓zfi, ↓zdm, ↓zfe, ↓zdn, ↓zca, ↓zcb, ↓zfa, ↓zfv, ↓zez, ↓zfw, ↓zfc, ↓zfu, ↓zfb, ↓zdj, ↓zcd, ↓zdk, ↓zbl, ↓zdy, ↓zcf, ↓zdz, ↓zcg, ↓zch, ↓zbz, ↓zcc, ↓zdi, ↓zei, ↓zeh, ↓zdx, ↓zdw, ↓zdu, ↓zdq, ↓zea, ↓zcs, ↓zct, ↓zen, ↓zbg, ↓zcv, ↓zcu, ↓zcx, ↓zce, ↓reduceIte, and_self, ↓zbt, ↓zcq, ↓zbs, ↓zbm, ↓zdl, ↓zdf, ↓zby, ↓zec, ↓zed, ↓zee, ↓zef, ↓zdv, ↓zdt, ↓zem, ↓zek, ↓zel, ↓zej, ↓zcl, ↓zeb, ↓zck, ↓zcn, ↓zco, ↓zcm, ↓zbo, ↓zcp, ↓zbn, ↓zbq, ↓zbr, ↓zbp, ↓zal, ↓zak, ↓zai, ↓zba, ↓zaj, ↓zax, ↓zaw, ↓zau, ↓zbe, ↓zav, ↓zad, ↓zac, ↓zaa, ↓zay, ↓zab, ↓zap, ↓zao, ↓zam, ↓zbb, ↓zan, ↓zat, ↓zas, ↓zaq, ↓zbc, ↓zar, ↓zah, ↓zag, ↓zae, ↓zaz, ↓zaf, Bool.not_true, Bool.not_false, Bool.false_eq_true, zbf, zbd, ↓sl0, ↓sl1, ↓sl2, ↓sl3, ↓sl4, ↓sl5, ↓sl6, ↓sl7, ↓sl8, true_and, and_true, zbj, decide_true, decide_false, List.getElem?_cons_zero, List.getElem?_cons_succ, List.set_cons_zero, List.set_cons_succ, hb]; exact ⟨yes (by rw [eo]; exact decide_eq_true (by omega)), _, _, _, rfl⟩
  · subst eh eτ
    simp (maxSteps := 4000000) (disch := decide) only [↓zdg, ↓zbx, ↓FL.then_nx, ↓FL.then_rt, ↓FL.then_bk, ↓FL.then_ct, ↓zbu, ↓zbv, ↓zcz, ↓zew, ↓zdc, ↓zex, ↓zdd, ↓zbw, ↓zev, ↓zeu, ↓zet, ↓zcy, ↓zda, ↓zdb, ↓zde, ↓zey, ↓zes, ↓zbi, ↓zfx, ↓zfy, ↓zci, ↓zcj, ↓zfp, ↓zbh, ↓zfh, ↓zfn, ↓zga, ↓zfl, ↓zdp, ↓zdo, ↓zfm, ↓zff, ↓zfk, ↓zgc, ↓zfd, ↓zgd, ↓zfq, ↓or1, ↓and2, ↓or2, ↓zdr, ↓zfs, ↓zds, ↓zft, ↓zfg, ↓zeg, ↓zcr, ↓zfo, ↓zfj, ↓zgb, ↓zfr, ↓zer, ↓zbk, ↓zge, ↓zfz, ↓zfi, ↓zdm, ↓zfe, ↓zdn, ↓zca, ↓zcb, ↓zfa, ↓zfv, ↓zez, ↓zfw, ↓zfc, ↓zfu, ↓zfb, ↓zdj, ↓zcd, ↓zdk, ↓zbl, ↓zdy, ↓zcf, ↓zdz, ↓zcg, ↓zch, ↓zbz, ↓zcc, ↓zdi, ↓zei, ↓zeh, ↓zdx, ↓zdw, ↓zdu, ↓zdq, ↓zea, ↓zcs, ↓zct, ↓zen, ↓zbg, ↓zcv, ↓zcu, ↓zcx, ↓zce, ↓reduceIte, and_self, ↓zbt, ↓zcq, ↓zbs, ↓zbm, ↓zdl, ↓zdf, ↓zby, ↓zec, ↓zed, ↓zee, ↓zef, ↓zdv, ↓zdt, ↓zem, ↓zek, ↓zel, ↓zej, ↓zcl, ↓zeb, ↓zck, ↓zcn, ↓zco, ↓zcm, ↓zbo, ↓zcp, ↓zbn, ↓zbq, ↓zbr, ↓zbp, ↓zal, ↓zak, ↓zai, ↓zba, ↓zaj, ↓zax, ↓zaw, ↓zau, ↓zbe, ↓zav, ↓zad, ↓zac, ↓zaa, ↓zay, ↓zab, ↓zap, ↓zao, ↓zam, ↓zbb, ↓zan, ↓zat, ↓zas, ↓zaq, ↓zbc, ↓zar, ↓zah, ↓zag, ↓zae, ↓zaz, ↓zaf, Bool.not_true, Bool.not_false, Bool.false_eq_true, zbf, zbd, ↓sl0, ↓sl1, ↓sl2, ↓sl3, ↓sl4, ↓sl5, ↓sl6, ↓sl7, ↓sl8, true_and, and_true, zbj, decide_true, decide_false, List.getElem?_cons_zero, List.getElem?_cons_succ, List.set_cons_zero, List.set_cons_succ]
    refine ⟨true, rfl, ⟨fun _ => ⟨hf, fun i a b e1 e2 => ho i a b ?_ e1 e2⟩, fun _ => rfl⟩⟩
    have h2 := (List.getElem?_eq_some_iff.mp e2).1
    rw [rng_len]; omega
theorem law_fits_v {E : XP} {P : D → Hd → Prop} {kd : Kd} {es : List TEl} {h : Hd} (hl : es.length ≤ 500000) (q : ∀ b, (b = true ↔ validP kd es) → P (.bl b) h) : vC (E := E) fF29 [.tup (es.map teD), kS kd] h P := by
  refine vC.mono (P := fun d h' => ∃ b, d = .bl b ∧ (b = true ↔ validP kd es) ∧ h' = h) ?_ fun d h' ⟨b, e, v, k⟩ => e ▸ k ▸ q b v
  refine runP_v (σ := [some (.tup (es.map teD)), some (kS kd), none]) (by rfl) (by rfl) ?_
  unfold bB29
  by_cases hk : kd = .seq
  · subst hk
    simp (maxSteps := 4000000) (disch := decide) only [↓zdg, ↓zbx, ↓FL.then_nx, ↓FL.then_rt, ↓FL.then_bk, ↓FL.then_ct, ↓zbu, ↓zbv, ↓zcz, ↓zew, ↓zdc, ↓zex, ↓zdd, ↓zbw, ↓zev, ↓zeu, ↓zet, ↓zcy, ↓zda, ↓zdb, ↓zde, ↓zey, ↓zes, ↓zbi, ↓zfx, ↓zfy, ↓zci, ↓zcj, ↓zfp, ↓zbh, ↓zfh, ↓zfn, ↓zga, ↓zfl, ↓zdp, ↓zdo, ↓zfm, ↓zff, ↓zfk, ↓zgc, ↓zfd, ↓zgd, ↓zfq, ↓or1, ↓and2, ↓or2, ↓zdr, ↓zfs, ↓zds, ↓zft, ↓zfg, ↓zeg, ↓zcr, ↓zfo, ↓zfj, ↓zgb, ↓zfr, ↓zer, ↓zbk, ↓zge, ↓zfz, ↓zfi, ↓zdm, ↓zfe, ↓zdn, ↓zca, ↓zcb, ↓zfa, ↓zfv, ↓zez, ↓zfw, ↓zfc, ↓zfu, ↓zfb, ↓zdj, ↓zcd, ↓zdk, ↓zbl, ↓zdy, ↓zcf, ↓zdz, ↓zcg, ↓zch, ↓zbz, ↓zcc, ↓zdi, ↓zei, ↓zeh, ↓zdx, ↓zdw, ↓zdu, ↓zdq, ↓zea, ↓zcs, ↓zct, ↓zen, ↓zbg, ↓zcv, ↓zcu, ↓zcx, ↓zce, ↓reduceIte, and_self, ↓zbt, ↓zcq, ↓zbs, ↓zbm, ↓zdl, ↓zdf, ↓zby, ↓zec, ↓zed, ↓zee, ↓zef, ↓zdv, ↓zdt, ↓zem, ↓zek, ↓zel, ↓zej, ↓zcl, ↓zeb, ↓zck, ↓zcn, ↓zco, ↓zcm, ↓zbo, ↓zcp, ↓zbn, ↓zbq, ↓zbr, ↓zbp, ↓zal, ↓zak, ↓zai, ↓zba, ↓zaj, ↓zax, ↓zaw, ↓zau, ↓zbe, ↓zav, ↓zad, ↓zac, ↓zaa, ↓zay, ↓zab, ↓zap, ↓zao, ↓zam, ↓zbb, ↓zan, ↓zat, ↓zas, ↓zaq, ↓zbc, ↓zar, ↓zah, ↓zag, ↓zae, ↓zaz, ↓zaf, Bool.not_true, Bool.not_false, Bool.false_eq_true, zbf, zbd, ↓sl0, ↓sl1, ↓sl2, ↓sl3, ↓sl4, ↓sl5, ↓sl6, ↓sl7, ↓sl8, true_and, and_true, zbj, decide_true, decide_false, List.getElem?_cons_zero, List.getElem?_cons_succ, List.set_cons_zero, List.set_cons_succ, kS]
    refine ⟨true, rfl, ⟨fun _ => ⟨fun e _ => by cases e <;> rfl, fun i a b _ _ => by cases a <;> cases b <;> rfl⟩, fun _ => rfl⟩⟩
  refine ss_mid (fun τ h' => h' = h ∧ τ = [some (.tup (es.map teD)), some (kS kd), none]) ?_ ?_
  · cases kd with
    | seq => exact absurd rfl hk
    | map => simp (maxSteps := 4000000) (disch := decide) only [↓zdg, ↓zbx, ↓FL.then_nx, ↓FL.then_rt, ↓FL.then_bk, ↓FL.then_ct, ↓zbu, ↓zbv, ↓zcz, ↓zew, ↓zdc, ↓zex, ↓zdd, ↓zbw, ↓zev, ↓zeu, ↓zet, ↓zcy, ↓zda, ↓zdb, ↓zde, ↓zey, ↓zes, ↓zbi, ↓zfx, ↓zfy, ↓zci, ↓zcj, ↓zfp, ↓zbh, ↓zfh, ↓zfn, ↓zga, ↓zfl, ↓zdp, ↓zdo, ↓zfm, ↓zff, ↓zfk, ↓zgc, ↓zfd, ↓zgd, ↓zfq, ↓or1, ↓and2, ↓or2, ↓zdr, ↓zfs, ↓zds, ↓zft, ↓zfg, ↓zeg, ↓zcr, ↓zfo, ↓zfj, ↓zgb, ↓zfr, ↓zer, ↓zbk, ↓zge, ↓zfz, ↓zfi, ↓zdm, ↓zfe, ↓zdn, ↓zca, ↓zcb, ↓zfa, ↓zfv, ↓zez, ↓zfw, ↓zfc, ↓zfu, ↓zfb, ↓zdj, ↓zcd, ↓zdk, ↓zbl, ↓zdy, ↓zcf, ↓zdz, ↓zcg, ↓zch, ↓zbz, ↓zcc, ↓zdi, ↓zei, ↓zeh, ↓zdx, ↓zdw, ↓zdu, ↓zdq, ↓zea, ↓zcs, ↓zct, ↓zen, ↓zbg, ↓zcv, ↓zcu, ↓zcx, ↓zce, ↓reduceIte, and_self, ↓zbt, ↓zcq, ↓zbs, ↓zbm, ↓zdl, ↓zdf, ↓zby, ↓zec, ↓zed, ↓zee, ↓zef, ↓zdv, ↓zdt, ↓zem, ↓zek, ↓zel, ↓zej, ↓zcl, ↓zeb, ↓zck, ↓zcn, ↓zco, ↓zcm, ↓zbo, ↓zcp, ↓zbn, ↓zbq, ↓zbr, ↓zbp, ↓zal, ↓zak, ↓zai, ↓zba, ↓zaj, ↓zax, ↓zaw, ↓zau, ↓zbe, ↓zav, ↓zad, ↓zac, ↓zaa, ↓zay, ↓zab, ↓zap, ↓zao, ↓zam, ↓zbb, ↓zan, ↓zat, ↓zas, ↓zaq, ↓zbc, ↓zar, ↓zah, ↓zag, ↓zae, ↓zaz, ↓zaf, Bool.not_true, Bool.not_false, Bool.false_eq_true, zbf, zbd, ↓sl0, ↓sl1, ↓sl2, ↓sl3, ↓sl4, ↓sl5, ↓sl6, ↓sl7, ↓sl8, true_and, and_true, zbj, decide_true, decide_false, List.getElem?_cons_zero, List.getElem?_cons_succ, List.set_cons_zero, List.set_cons_succ, kS, k4]
    | que => simp (maxSteps := 4000000) (disch := decide) only [↓zdg, ↓zbx, ↓FL.then_nx, ↓FL.then_rt, ↓FL.then_bk, ↓FL.then_ct, ↓zbu, ↓zbv, ↓zcz, ↓zew, ↓zdc, ↓zex, ↓zdd, ↓zbw, ↓zev, ↓zeu, ↓zet, ↓zcy, ↓zda, ↓zdb, ↓zde, ↓zey, ↓zes, ↓zbi, ↓zfx, ↓zfy, ↓zci, ↓zcj, ↓zfp, ↓zbh, ↓zfh, ↓zfn, ↓zga, ↓zfl, ↓zdp, ↓zdo, ↓zfm, ↓zff, ↓zfk, ↓zgc, ↓zfd, ↓zgd, ↓zfq, ↓or1, ↓and2, ↓or2, ↓zdr, ↓zfs, ↓zds, ↓zft, ↓zfg, ↓zeg, ↓zcr, ↓zfo, ↓zfj, ↓zgb, ↓zfr, ↓zer, ↓zbk, ↓zge, ↓zfz, ↓zfi, ↓zdm, ↓zfe, ↓zdn, ↓zca, ↓zcb, ↓zfa, ↓zfv, ↓zez, ↓zfw, ↓zfc, ↓zfu, ↓zfb, ↓zdj, ↓zcd, ↓zdk, ↓zbl, ↓zdy, ↓zcf, ↓zdz, ↓zcg, ↓zch, ↓zbz, ↓zcc, ↓zdi, ↓zei, ↓zeh, ↓zdx, ↓zdw, ↓zdu, ↓zdq, ↓zea, ↓zcs, ↓zct, ↓zen, ↓zbg, ↓zcv, ↓zcu, ↓zcx, ↓zce, ↓reduceIte, and_self, ↓zbt, ↓zcq, ↓zbs, ↓zbm, ↓zdl, ↓zdf, ↓zby, ↓zec, ↓zed, ↓zee, ↓zef, ↓zdv, ↓zdt, ↓zem, ↓zek, ↓zel, ↓zej, ↓zcl, ↓zeb, ↓zck, ↓zcn, ↓zco, ↓zcm, ↓zbo, ↓zcp, ↓zbn, ↓zbq, ↓zbr, ↓zbp, ↓zal, ↓zak, ↓zai, ↓zba, ↓zaj, ↓zax, ↓zaw, ↓zau, ↓zbe, ↓zav, ↓zad, ↓zac, ↓zaa, ↓zay, ↓zab, ↓zap, ↓zao, ↓zam, ↓zbb, ↓zan, ↓zat, ↓zas, ↓zaq, ↓zbc, ↓zar, ↓zah, ↓zag, ↓zae, ↓zaz, ↓zaf, Bool.not_true, Bool.not_false, Bool.false_eq_true, zbf, zbd, ↓sl0, ↓sl1, ↓sl2, ↓sl3, ↓sl4, ↓sl5, ↓sl6, ↓sl7, ↓sl8, true_and, and_true, zbj, decide_true, decide_false, List.getElem?_cons_zero, List.getElem?_cons_succ, List.set_cons_zero, List.set_cons_succ, kS, k7]
    | ivl => simp (maxSteps := 4000000) (disch := decide) only [↓zdg, ↓zbx, ↓FL.then_nx, ↓FL.then_rt, ↓FL.then_bk, ↓FL.then_ct, ↓zbu, ↓zbv, ↓zcz, ↓zew, ↓zdc, ↓zex, ↓zdd, ↓zbw, ↓zev, ↓zeu, ↓zet, ↓zcy, ↓zda, ↓zdb, ↓zde, ↓zey, ↓zes, ↓zbi, ↓zfx, ↓zfy, ↓zci, ↓zcj, ↓zfp, ↓zbh, ↓zfh, ↓zfn, ↓zga, ↓zfl, ↓zdp, ↓zdo, ↓zfm, ↓zff, ↓zfk, ↓zgc, ↓zfd, ↓zgd, ↓zfq, ↓or1, ↓and2, ↓or2, ↓zdr, ↓zfs, ↓zds, ↓zft, ↓zfg, ↓zeg, ↓zcr, ↓zfo, ↓zfj, ↓zgb, ↓zfr, ↓zer, ↓zbk, ↓zge, ↓zfz, ↓zfi, ↓zdm, ↓zfe, ↓zdn, ↓zca, ↓zcb, ↓zfa, ↓zfv, ↓zez, ↓zfw, ↓zfc, ↓zfu, ↓zfb, ↓zdj, ↓zcd, ↓zdk, ↓zbl, ↓zdy, ↓zcf, ↓zdz, ↓zcg, ↓zch, ↓zbz, ↓zcc, ↓zdi, ↓zei, ↓zeh, ↓zdx, ↓zdw, ↓zdu, ↓zdq, ↓zea, ↓zcs, ↓zct, ↓zen, ↓zbg, ↓zcv, ↓zcu, ↓zcx, ↓zce, ↓reduceIte, and_self, ↓zbt, ↓zcq, ↓zbs, ↓zbm, ↓zdl, ↓zdf, ↓zby, ↓zec, ↓zed, ↓zee, ↓zef, ↓zdv, ↓zdt, ↓zem, ↓zek, ↓zel, ↓zej, ↓zcl, ↓zeb, ↓zck, ↓zcn, ↓zco, ↓zcm, ↓zbo, ↓zcp, ↓zbn, ↓zbq, ↓zbr, ↓zbp, ↓zal, ↓zak, ↓zai, ↓zba, ↓zaj, ↓zax, ↓zaw, ↓zau, ↓zbe, ↓zav, ↓zad, ↓zac, ↓zaa, ↓zay, ↓zab, ↓zap, ↓zao, ↓zam, ↓zbb, ↓zan, ↓zat, ↓zas, ↓zaq, ↓zbc, ↓zar, ↓zah, ↓zag, ↓zae, ↓zaz, ↓zaf, Bool.not_true, Bool.not_false, Bool.false_eq_true, zbf, zbd, ↓sl0, ↓sl1, ↓sl2, ↓sl3, ↓sl4, ↓sl5, ↓sl6, ↓sl7, ↓sl8, true_and, and_true, zbj, decide_true, decide_false, List.getElem?_cons_zero, List.getElem?_cons_succ, List.set_cons_zero, List.set_cons_succ, kS, k10]
  rintro τ' h' ⟨rfl, rfl⟩
  refine ss_mid (fun τ h2 => h2 = h' ∧ (∀ e ∈ es, fitsM kd e = true) ∧ ∃ z2, τ = [some (.tup (es.map teD)), some (kS kd), z2]) ?_ ?_
  · simp (maxSteps := 4000000) (disch := decide) only [↓zdg, ↓zbx, ↓FL.then_nx, ↓FL.then_rt, ↓FL.then_bk, ↓FL.then_ct, ↓zbu, ↓zbv, ↓zcz, ↓zew, ↓zdc, ↓zex, ↓zdd, ↓zbw, ↓zev, ↓zeu, ↓zet, ↓zcy, ↓zda, ↓zdb, ↓zde, ↓zey, ↓zes, ↓zbi, ↓zfx, ↓zfy, ↓zci, ↓zcj, ↓zfp, ↓zbh, ↓zfh, ↓zfn, ↓zga, ↓zfl, ↓zdp, ↓zdo, ↓zfm, ↓zff, ↓zfk, ↓zgc, ↓zfd, ↓zgd, ↓zfq, ↓or1, ↓and2, ↓or2, ↓zdr, ↓zfs, ↓zds, ↓zft, ↓zfg, ↓zeg, ↓zcr, ↓zfo, ↓zfj, ↓zgb, ↓zfr, ↓zer, ↓zbk, ↓zge, ↓zfz, ↓zfi, ↓zdm, ↓zfe, ↓zdn, ↓zca, ↓zcb, ↓zfa, ↓zfv, ↓zez, ↓zfw, ↓zfc, ↓zfu, ↓zfb, ↓zdj, ↓zcd, ↓zdk, ↓zbl, ↓zdy, ↓zcf, ↓zdz, ↓zcg, ↓zch, ↓zbz, ↓zcc, ↓zdi, ↓zei, ↓zeh, ↓zdx, ↓zdw, ↓zdu, ↓zdq, ↓zea, ↓zcs, ↓zct, ↓zen, ↓zbg, ↓zcv, ↓zcu, ↓zcx, ↓zce, ↓reduceIte, and_self, ↓zbt, ↓zcq, ↓zbs, ↓zbm, ↓zdl, ↓zdf, ↓zby, ↓zec, ↓zed, ↓zee, ↓zef, ↓zdv, ↓zdt, ↓zem, ↓zek, ↓zel, ↓zej, ↓zcl, ↓zeb, ↓zck, ↓zcn, ↓zco, ↓zcm, ↓zbo, ↓zcp, ↓zbn, ↓zbq, ↓zbr, ↓zbp, ↓zal, ↓zak, ↓zai, ↓zba, ↓zaj, ↓zax, ↓zaw, ↓zau, ↓zbe, ↓zav, ↓zad, ↓zac, ↓zaa, ↓zay, ↓zab, ↓zap, ↓zao, ↓zam, ↓zbb, ↓zan, ↓zat, ↓zas, ↓zaq, ↓zbc, ↓zar, ↓zah, ↓zag, ↓zae, ↓zaz, ↓zaf, Bool.not_true, Bool.not_false, Bool.false_eq_true, zbf, zbd, ↓sl0, ↓sl1, ↓sl2, ↓sl3, ↓sl4, ↓sl5, ↓sl6, ↓sl7, ↓sl8, true_and, and_true, zbj, decide_true, decide_false, List.getElem?_cons_zero, List.getElem?_cons_succ, List.set_cons_zero, List.set_cons_succ]
    refine for_sat (fun i τ h2 => h2 = h' ∧ (∀ e ∈ es.take i, fitsM kd e = true) ∧ ∃ z2, τ = [some (.tup (es.map teD)), some (kS kd), z2]) ⟨rfl, by simp, _, rfl⟩ (fun _ _ _ _ _ _ z => nomatch z) (fun i τ h2 d hd ⟨eh, hf, z2, eτ⟩ => ?_) fun τ h2 ⟨eh, hf, z2, eτ⟩ => ?_
    · subst eh eτ
      rw [List.getElem?_map] at hd
      cases ex : es[i]? with
      | none => rw [ex] at hd; cases hd
      | some e =>
        rw [ex] at hd
        cases hd
        refine ⟨_, rfl, ?_⟩
        have yes : fitsM kd e = true → ∀ e ∈ es.take (i + 1), fitsM kd e = true := fun hb => by
          rw [take_snoc ex]
          intro e' he'
          rcases List.mem_append.mp he' with z | z
          · exact hf _ z
          · rw [List.mem_singleton.mp z]; exact hb
        have no : fitsM kd e = false → (false = true ↔ validP kd es) := fun hb => ⟨fun z => (nomatch z), fun z => by
          have := z.1 e (List.mem_of_getElem? ex)
          rw [hb] at this; cases this⟩
        cases e with
        | sc k =>
          have nf : fitsM kd (.sc k) = false := by cases kd <;> first | rfl | exact absurd rfl hk
          cases k <;> (simp (maxSteps := 4000000) (disch := decide) only [↓zdg, ↓zbx, ↓FL.then_nx, ↓FL.then_rt, ↓FL.then_bk, ↓FL.then_ct, ↓zbu, ↓zbv, ↓zcz, ↓zew, ↓zdc, ↓zex, ↓zdd, ↓zbw, ↓zev, ↓zeu, ↓zet, ↓zcy, ↓zda, ↓zdb, ↓zde, ↓zey, ↓zes, ↓zbi, ↓zfx, ↓zfy, ↓zci, ↓zcj, ↓zfp, ↓zbh, ↓zfh, ↓zfn, ↓zga, ↓zfl, ↓zdp, ↓zdo, ↓zfm, ↓zff, ↓zfk, ↓zgc, ↓zfd, ↓zgd, ↓zfq, ↓or1, ↓and2, ↓or2, ↓zdr, ↓zfs, ↓zds, ↓zft, ↓zfg, ↓zeg, ↓zcr, ↓zfo, ↓zfj, ↓zgb, ↓zfr, ↓zer, ↓zbk, ↓zge, ↓zfz, ↓zfi, ↓zdm, ↓zfe, ↓zdn, ↓zca, ↓zcb, ↓zfa, ↓zfv, ↓zez, ↓zfw, ↓zfc, ↓zfu, ↓zfb, ↓zdj, ↓zcd, ↓zdk, ↓zbl, ↓zdy, ↓zcf, ↓zdz, ↓zcg, ↓zch, ↓zbz, ↓zcc, ↓zdi, ↓zei, ↓zeh, ↓zdx, ↓zdw, ↓zdu, ↓zdq, ↓zea, ↓zcs, ↓zct, ↓zen, ↓zbg, ↓zcv, ↓zcu, ↓zcx, ↓zce, ↓reduceIte, and_self, ↓zbt, ↓zcq, ↓zbs, ↓zbm, ↓zdl, ↓zdf, ↓zby, ↓zec, ↓zed, ↓zee, ↓zef, ↓zdv, ↓zdt, ↓zem, ↓zek, ↓zel, ↓zej, ↓zcl, ↓zeb, ↓zck, ↓zcn, ↓zco, ↓zcm, ↓zbo, ↓zcp, ↓zbn, ↓zbq, ↓zbr, ↓zbp, ↓zal, ↓zak, ↓zai, ↓zba, ↓zaj, ↓zax, ↓zaw, ↓zau, ↓zbe, ↓zav, ↓zad, ↓zac, ↓zaa, ↓zay, ↓zab, ↓zap, ↓zao, ↓zam, ↓zbb, ↓zan, ↓zat, ↓zas, ↓zaq, ↓zbc, ↓zar, ↓zah, ↓zag, ↓zae, ↓zaz, ↓zaf, Bool.not_true, Bool.not_false, Bool.false_eq_true, zbf, zbd, ↓sl0, ↓sl1, ↓sl2, ↓sl3, ↓sl4, ↓sl5, ↓sl6, ↓sl7, ↓sl8, true_and, and_true, zbj, decide_true, decide_false, List.getElem?_cons_zero, List.getElem?_cons_succ, List.set_cons_zero, List.set_cons_succ, teD, kD]; exact ⟨false, rfl, no nf⟩)
        | pr a b =>
          cases kd with
          | seq => exact absurd rfl hk
          | map => simp (maxSteps := 4000000) (disch := decide) only [↓zdg, ↓zbx, ↓FL.then_nx, ↓FL.then_rt, ↓FL.then_bk, ↓FL.then_ct, ↓zbu, ↓zbv, ↓zcz, ↓zew, ↓zdc, ↓zex, ↓zdd, ↓zbw, ↓zev, ↓zeu, ↓zet, ↓zcy, ↓zda, ↓zdb, ↓zde, ↓zey, ↓zes, ↓zbi, ↓zfx, ↓zfy, ↓zci, ↓zcj, ↓zfp, ↓zbh, ↓zfh, ↓zfn, ↓zga, ↓zfl, ↓zdp, ↓zdo, ↓zfm, ↓zff, ↓zfk, ↓zgc, ↓zfd, ↓zgd, ↓zfq, ↓or1, ↓and2, ↓or2, ↓zdr, ↓zfs, ↓zds, ↓zft, ↓zfg, ↓zeg, ↓zcr, ↓zfo, ↓zfj, ↓zgb, ↓zfr, ↓zer, ↓zbk, ↓zge, ↓zfz, ↓zfi, ↓zdm, ↓zfe, ↓zdn, ↓zca, ↓zcb, ↓zfa, ↓zfv, ↓zez, ↓zfw, ↓zfc, ↓zfu, ↓zfb, ↓zdj, ↓zcd, ↓zdk, ↓zbl, ↓zdy, ↓zcf, ↓zdz, ↓zcg, ↓zch, ↓zbz, ↓zcc, ↓zdi, ↓zei, ↓zeh, ↓zdx, ↓zdw, ↓zdu, ↓zdq, ↓zea, ↓zcs, ↓zct, ↓zen, ↓zbg, ↓zcv, ↓zcu, ↓zcx, ↓zce, ↓reduceIte, and_self, ↓zbt, ↓zcq, ↓zbs, ↓zbm, ↓zdl, ↓zdf, ↓zby, ↓zec, ↓zed, ↓zee, ↓zef, ↓zdv, ↓zdt, ↓zem, ↓zek, ↓zel, ↓zej, ↓zcl, ↓zeb, ↓zck, ↓zcn, ↓zco, ↓zcm, ↓zbo, ↓zcp, ↓zbn, ↓zbq, ↓zbr, ↓zbp, ↓zal, ↓zak, ↓zai, ↓zba, ↓zaj, ↓zax, ↓zaw, ↓zau, ↓zbe, ↓zav, ↓zad, ↓zac, ↓zaa, ↓zay, ↓zab, ↓zap, ↓zao, ↓zam, ↓zbb, ↓zan, ↓zat, ↓zas, ↓zaq, ↓zbc, ↓zar, ↓zah, ↓zag, ↓zae, ↓zaz, ↓zaf, Bool.not_true, Bool.not_false, Bool.false_eq_true, zbf, zbd, ↓sl0, ↓sl1, ↓sl2, ↓sl3, ↓sl4, ↓sl5, ↓sl6, ↓sl7, ↓sl8, true_and, and_true, zbj, decide_true, decide_false, List.getElem?_cons_zero, List.getElem?_cons_succ, List.set_cons_zero, List.set_cons_succ, teD, kS, k6]; exact ⟨yes rfl, _, rfl⟩
          | que =>
            cases a with
            | inl i => simp (maxSteps := 4000000) (disch := decide) only [↓zdg, ↓zbx, ↓FL.then_nx, ↓FL.then_rt, ↓FL.then_bk, ↓FL.then_ct, ↓zbu, ↓zbv, ↓zcz, ↓zew, ↓zdc, ↓zex, ↓zdd, ↓zbw, ↓zev, ↓zeu, ↓zet, ↓zcy, ↓zda, ↓zdb, ↓zde, ↓zey, ↓zes, ↓zbi, ↓zfx, ↓zfy, ↓zci, ↓zcj, ↓zfp, ↓zbh, ↓zfh, ↓zfn, ↓zga, ↓zfl, ↓zdp, ↓zdo, ↓zfm, ↓zff, ↓zfk, ↓zgc, ↓zfd, ↓zgd, ↓zfq, ↓or1, ↓and2, ↓or2, ↓zdr, ↓zfs, ↓zds, ↓zft, ↓zfg, ↓zeg, ↓zcr, ↓zfo, ↓zfj, ↓zgb, ↓zfr, ↓zer, ↓zbk, ↓zge, ↓zfz, ↓zfi, ↓zdm, ↓zfe, ↓zdn, ↓zca, ↓zcb, ↓zfa, ↓zfv, ↓zez, ↓zfw, ↓zfc, ↓zfu, ↓zfb, ↓zdj, ↓zcd, ↓zdk, ↓zbl, ↓zdy, ↓zcf, ↓zdz, ↓zcg, ↓zch, ↓zbz, ↓zcc, ↓zdi, ↓zei, ↓zeh, ↓zdx, ↓zdw, ↓zdu, ↓zdq, ↓zea, ↓zcs, ↓zct, ↓zen, ↓zbg, ↓zcv, ↓zcu, ↓zcx, ↓zce, ↓reduceIte, and_self, ↓zbt, ↓zcq, ↓zbs, ↓zbm, ↓zdl, ↓zdf, ↓zby, ↓zec, ↓zed, ↓zee, ↓zef, ↓zdv, ↓zdt, ↓zem, ↓zek, ↓zel, ↓zej, ↓zcl, ↓zeb, ↓zck, ↓zcn, ↓zco, ↓zcm, ↓zbo, ↓zcp, ↓zbn, ↓zbq, ↓zbr, ↓zbp, ↓zal, ↓zak, ↓zai, ↓zba, ↓zaj, ↓zax, ↓zaw, ↓zau, ↓zbe, ↓zav, ↓zad, ↓zac, ↓zaa, ↓zay, ↓zab, ↓zap, ↓zao, ↓zam, ↓zbb, ↓zan, ↓zat, ↓zas, ↓zaq, ↓zbc, ↓zar, ↓zah, ↓zag, ↓zae, ↓zaz, ↓zaf, Bool.not_true, Bool.not_false, Bool.false_eq_true, zbf, zbd, ↓sl0, ↓sl1, ↓sl2, ↓sl3, ↓sl4, ↓sl5, ↓sl6, ↓sl7, ↓sl8, true_and, and_true, zbj, decide_true, decide_false, List.getElem?_cons_zero, List.getElem?_cons_succ, List.set_cons_zero, List.set_cons_succ, teD, kS, kD, k8, k9]; exact ⟨yes rfl, _, rfl⟩
            | inr x => simp (maxSteps := 4000000) (disch := decide) only [↓zdg, ↓zbx, ↓FL.then_nx, ↓FL.then_rt, ↓FL.then_bk, ↓FL.then_ct, ↓zbu, ↓zbv, ↓zcz, ↓zew, ↓zdc, ↓zex, ↓zdd, ↓zbw, ↓zev, ↓zeu, ↓zet, ↓zcy, ↓zda, ↓zdb, ↓zde, ↓zey, ↓zes, ↓zbi, ↓zfx, ↓zfy, ↓zci, ↓zcj, ↓zfp, ↓zbh, ↓zfh, ↓zfn, ↓zga, ↓zfl, ↓zdp, ↓zdo, ↓zfm, ↓zff, ↓zfk, ↓zgc, ↓zfd, ↓zgd, ↓zfq, ↓or1, ↓and2, ↓or2, ↓zdr, ↓zfs, ↓zds, ↓zft, ↓zfg, ↓zeg, ↓zcr, ↓zfo, ↓zfj, ↓zgb, ↓zfr, ↓zer, ↓zbk, ↓zge, ↓zfz, ↓zfi, ↓zdm, ↓zfe, ↓zdn, ↓zca, ↓zcb, ↓zfa, ↓zfv, ↓zez, ↓zfw, ↓zfc, ↓zfu, ↓zfb, ↓zdj, ↓zcd, ↓zdk, ↓zbl, ↓zdy, ↓zcf, ↓zdz, ↓zcg, ↓zch, ↓zbz, ↓zcc, ↓zdi, ↓zei, ↓zeh, ↓zdx, ↓zdw, ↓zdu, ↓zdq, ↓zea, ↓zcs, ↓zct, ↓zen, ↓zbg, ↓zcv, ↓zcu, ↓zcx, ↓zce, ↓reduceIte, and_self, ↓zbt, ↓zcq, ↓zbs, ↓zbm, ↓zdl, ↓zdf, ↓zby, ↓zec, ↓zed, ↓zee, ↓zef, ↓zdv, ↓zdt, ↓zem, ↓zek, ↓zel, ↓zej, ↓zcl, ↓zeb, ↓zck, ↓zcn, ↓zco, ↓zcm, ↓zbo, ↓zcp, ↓zbn, ↓zbq, ↓zbr, ↓zbp, ↓zal, ↓zak, ↓zai, ↓zba, ↓zaj, ↓zax, ↓zaw, ↓zau, ↓zbe, ↓zav, ↓zad, ↓zac, ↓zaa, ↓zay, ↓zab, ↓zap, ↓zao, ↓zam, ↓zbb, ↓zan, ↓zat, ↓zas, ↓zaq, ↓zbc, ↓zar, ↓zah, ↓zag, ↓zae, ↓zaz, ↓zaf, Bool.not_true, Bool.not_false, Bool.false_eq_true, zbf, zbd, ↓sl0, ↓sl1, ↓sl2, ↓sl3, ↓sl4, ↓sl5, ↓sl6, ↓sl7, ↓sl8, true_and, and_true, zbj, decide_true, decide_false, List.getElem?_cons_zero, List.getElem?_cons_succ, List.set_cons_zero, List.set_cons_succ, teD, kS, kD, k8, k9]; exact ⟨false, rfl, no rfl⟩
          | ivl =>
            cases a with
            | inr x => simp (maxSteps := 4000000) (disch := decide) only [↓zdg, ↓zbx, ↓FL.then_nx, ↓FL.then_rt, ↓FL.then_bk, ↓FL.then_ct, ↓zbu, ↓zbv, ↓zcz, ↓zew, ↓zdc, ↓zex, ↓zdd, ↓zbw, ↓zev, ↓zeu, ↓zet, ↓zcy, ↓zda, ↓zdb, ↓zde, ↓zey, ↓zes, ↓zbi, ↓zfx, ↓zfy, ↓zci, ↓zcj, ↓zfp, ↓zbh, ↓zfh, ↓zfn, ↓zga, ↓zfl, ↓zdp, ↓zdo, ↓zfm, ↓zff, ↓zfk, ↓zgc, ↓zfd, ↓zgd, ↓zfq, ↓or1, ↓and2, ↓or2, ↓zdr, ↓zfs, ↓zds, ↓zft, ↓zfg, ↓zeg, ↓zcr, ↓zfo, ↓zfj, ↓zgb, ↓zfr, ↓zer, ↓zbk, ↓zge, ↓zfz, ↓zfi, ↓zdm, ↓zfe, ↓zdn, ↓zca, ↓zcb, ↓zfa, ↓zfv, ↓zez, ↓zfw, ↓zfc, ↓zfu, ↓zfb, ↓zdj, ↓zcd, ↓zdk, ↓zbl, ↓zdy, ↓zcf, ↓zdz, ↓zcg, ↓zch, ↓zbz, ↓zcc, ↓zdi, ↓zei, ↓zeh, ↓zdx, ↓zdw, ↓zdu, ↓zdq, ↓zea, ↓zcs, ↓zct, ↓zen, ↓zbg, ↓zcv, ↓zcu, ↓zcx, ↓zce, ↓reduceIte, and_self, ↓zbt, ↓zcq, ↓zbs, ↓zbm, ↓zdl, ↓zdf, ↓zby, ↓zec, ↓zed, ↓zee, ↓zef, ↓zdv, ↓zdt, ↓zem, ↓zek, ↓zel, ↓zej, ↓zcl, ↓zeb, ↓zck, ↓zcn, ↓zco, ↓zcm, ↓zbo, ↓zcp, ↓zbn, ↓zbq, ↓zbr, ↓zbp, ↓zal, ↓zak, ↓zai, ↓zba, ↓zaj, ↓zax, ↓zaw, ↓zau, ↓zbe, ↓zav, ↓zad, ↓zac, ↓zaa, ↓zay, ↓zab, ↓zap, ↓zao, ↓zam, ↓zbb, ↓zan, ↓zat, ↓zas, ↓zaq, ↓zbc, ↓zar, ↓zah, ↓zag, ↓zae, ↓zaz, ↓zaf, Bool.not_true, Bool.not_false, Bool.false_eq_true, zbf, zbd, ↓sl0, ↓sl1, ↓sl2, ↓sl3, ↓sl4, ↓sl5, ↓sl6, ↓sl7, ↓sl8, true_and, and_true, zbj, decide_true, decide_false, List.getElem?_cons_zero, List.getElem?_cons_succ, List.set_cons_zero, List.set_cons_succ, teD, kS, kD, k11, k12]; exact ⟨false, rfl, no rfl⟩
            | inl i => cases b with
              | inr x => simp (maxSteps := 4000000) (disch := decide) only [↓zdg, ↓zbx, ↓FL.then_nx, ↓FL.then_rt, ↓FL.then_bk, ↓FL.then_ct, ↓zbu, ↓zbv, ↓zcz, ↓zew, ↓zdc, ↓zex, ↓zdd, ↓zbw, ↓zev, ↓zeu, ↓zet, ↓zcy, ↓zda, ↓zdb, ↓zde, ↓zey, ↓zes, ↓zbi, ↓zfx, ↓zfy, ↓zci, ↓zcj, ↓zfp, ↓zbh, ↓zfh, ↓zfn, ↓zga, ↓zfl, ↓zdp, ↓zdo, ↓zfm, ↓zff, ↓zfk, ↓zgc, ↓zfd, ↓zgd, ↓zfq, ↓or1, ↓and2, ↓or2, ↓zdr, ↓zfs, ↓zds, ↓zft, ↓zfg, ↓zeg, ↓zcr, ↓zfo, ↓zfj, ↓zgb, ↓zfr, ↓zer, ↓zbk, ↓zge, ↓zfz, ↓zfi, ↓zdm, ↓zfe, ↓zdn, ↓zca, ↓zcb, ↓zfa, ↓zfv, ↓zez, ↓zfw, ↓zfc, ↓zfu, ↓zfb, ↓zdj, ↓zcd, ↓zdk, ↓zbl, ↓zdy, ↓zcf, ↓zdz, ↓zcg, ↓zch, ↓zbz, ↓zcc, ↓zdi, ↓zei, ↓zeh, ↓zdx, ↓zdw, ↓zdu, ↓zdq, ↓zea, ↓zcs, ↓zct, ↓zen, ↓zbg, ↓zcv, ↓zcu, ↓zcx, ↓zce, ↓reduceIte, and_self, ↓zbt, ↓zcq, ↓zbs, ↓zbm, ↓zdl, ↓zdf, ↓zby, ↓zec, ↓zed, ↓zee, ↓zef, ↓zdv, ↓zdt, ↓zem, ↓zek, ↓zel, ↓zej, ↓zcl, ↓zeb, ↓zck, ↓zcn, ↓zco, ↓zcm, ↓zbo, ↓zcp, ↓zbn, ↓zbq, ↓zbr, ↓zbp, ↓zal, ↓zak, ↓zai, ↓zba, ↓zaj, ↓zax, ↓zaw, ↓zau, ↓zbe, ↓zav, ↓zad, ↓zac, ↓zaa, ↓zay, ↓zab, ↓zap, ↓zao, ↓zam, ↓zbb, ↓zan, ↓zat, ↓zas, ↓zaq, ↓zbc, ↓zar, ↓zah, ↓zag, ↓zae, ↓zaz, ↓zaf, Bool.not_true, Bool.not_false, Bool.false_eq_true, zbf, zbd, ↓sl0, ↓sl1, ↓sl2, ↓sl3, ↓sl4, ↓sl5, ↓sl6, ↓sl7, ↓sl8, true_and, and_true, zbj, decide_true, decide_false, List.getElem?_cons_zero, List.getElem?_cons_succ, List.set_cons_zero, List.set_cons_succ, teD, kS, kD, k11, k12]; exact ⟨false, rfl, no rfl⟩
              | inl j =>
                simp (maxSteps := 4000000) (disch := decide) only [↓zdg, ↓zbx, ↓FL.then_nx, ↓FL.then_rt, ↓FL.then_bk, ↓FL.then_ct, ↓zbu, ↓zbv, ↓zcz, ↓zew, ↓zdc, ↓zex, ↓zdd, ↓zbw, ↓zev, ↓zeu, ↓zet, ↓zcy, ↓zda, ↓zdb, ↓zde, ↓zey, ↓zes, ↓zbi, ↓zfx, ↓zfy, ↓zci, ↓zcj, ↓zfp, ↓zbh, ↓zfh, ↓zfn, ↓zga, ↓zfl, ↓zdp, ↓zdo, ↓zfm, ↓zff, ↓zfk, ↓zgc, ↓zfd, ↓zgd, ↓zfq, ↓or1, ↓and2, ↓or2, ↓zdr, ↓zfs, ↓zds, ↓zft, ↓zfg, ↓zeg, ↓zcr, ↓zfo, ↓zfj, ↓zgb, ↓zfr, ↓zer, ↓zbk, ↓zge, ↓zfz, ↓zfi, ↓zdm, ↓zfe, ↓zdn, ↓zca, ↓zcb, ↓zfa, ↓zfv, ↓zez, ↓zfw, ↓zfc, ↓zfu, ↓zfb, ↓zdj, ↓zcd, ↓zdk, ↓zbl, ↓zdy, ↓zcf, ↓zdz, ↓zcg, ↓zch, ↓zbz, ↓zcc, ↓zdi, ↓zei, ↓zeh, ↓zdx, ↓zdw, ↓zdu, ↓zdq, ↓zea, ↓zcs, ↓zct, ↓zen, ↓zbg, ↓zcv, ↓zcu, ↓zcx, ↓zce, ↓reduceIte, and_self, ↓zbt, ↓zcq, ↓zbs, ↓zbm, ↓zdl, ↓zdf, ↓zby, ↓zec, ↓zed, ↓zee, ↓zef, ↓zdv, ↓zdt, ↓zem, ↓zek, ↓zel, ↓zej, ↓zcl, ↓zeb, ↓zck, ↓zcn, ↓zco, ↓zcm, ↓zbo, ↓zcp, ↓zbn, ↓zbq, ↓zbr, ↓zbp, ↓zal, ↓zak, ↓zai, ↓zba, ↓zaj, ↓zax, ↓zaw, ↓zau, ↓zbe, ↓zav, ↓zad, ↓zac, ↓zaa, ↓zay, ↓zab, ↓zap, ↓zao, ↓zam, ↓zbb, ↓zan, ↓zat, ↓zas, ↓zaq, ↓zbc, ↓zar, ↓zah, ↓zag, ↓zae, ↓zaz, ↓zaf, Bool.not_true, Bool.not_false, Bool.false_eq_true, zbf, zbd, ↓sl0, ↓sl1, ↓sl2, ↓sl3, ↓sl4, ↓sl5, ↓sl6, ↓sl7, ↓sl8, true_and, and_true, zbj, decide_true, decide_false, List.getElem?_cons_zero, List.getElem?_cons_succ, List.set_cons_zero, List.set_cons_succ, teD, kS, kD, k11, k12]
                by_cases hb : j ≤ i
                · simp (maxSteps := 4000000) (disch := decide) only [↓zdg, ↓zbx, ↓FL.then_nx, ↓FL.then_rt, ↓FL.then_bk, ↓FL.then_ct, ↓zbu, ↓zbv, ↓zcz, ↓zew, ↓zdc, ↓zex, ↓zdd, ↓zbw, ↓zev, ↓zeu, ↓zet, ↓zcy, ↓zda, ↓zdb, ↓zde, ↓zey, ↓zes, ↓zbi, ↓zfx, ↓zfy, ↓zci, ↓zcj, ↓zfp, ↓zbh, ↓zfh, ↓zfn, ↓zga, ↓zfl, ↓zdp, ↓zdo, ↓zfm, ↓zff, ↓zfk, ↓zgc, ↓zfd, ↓zgd, ↓zfq, ↓or1, ↓and2, ↓or2, ↓zdr, ↓zfs, ↓zds, ↓zft, ↓zfg, ↓zeg, ↓zcr, ↓zfo, ↓zfj, ↓zgb, ↓zfr, ↓zer, ↓zbk, ↓zge, ↓zfz, ↓zfi, ↓zdm, ↓zfe, ↓zdn, ↓zca, ↓zcb, ↓zfa, ↓zfv, ↓zez, ↓zfw, ↓zfc, ↓zfu, ↓zfb, ↓zdj, ↓zcd, ↓zdk, ↓zbl, ↓zdy, ↓zcf, ↓zdz, ↓zcg, ↓zch, ↓zbz, ↓zcc, ↓zdi, ↓zei, ↓zeh, ↓zdx, ↓zdw, ↓zdu, ↓zdq, ↓zea, ↓zcs, ↓zct, ↓zen, ↓zbg, ↓zcv, ↓zcu, ↓zcx, ↓zce, ↓reduceIte, and_self, ↓zbt, ↓zcq, ↓zbs, ↓zbm, ↓zdl, ↓zdf, ↓zby, ↓zec, ↓zed, ↓zee, ↓zef, ↓zdv, ↓zdt, ↓zem, ↓zek, ↓zel, ↓zej, ↓zcl, ↓zeb, ↓zck, ↓zcn, ↓zco, ↓zcm, ↓zbo, ↓zcp, ↓zbn, ↓zbq, ↓zbr, ↓zbp, ↓zal, ↓zak, ↓zai, ↓zba, ↓zaj, ↓zax, ↓zaw, ↓zau, ↓zbe, ↓zav, ↓zad, ↓zac, ↓zaa, ↓zay, ↓zab, ↓zap, ↓zao, ↓zam, ↓zbb, ↓zan, ↓zat, ↓zas, ↓zaq, ↓zbc, ↓zar, ↓zah, ↓zag, ↓zae, ↓zaz, ↓zaf, Bool.not_true, Bool.not_false, Bool.false_eq_true, zbf, zbd, ↓sl0, ↓sl1, ↓sl2, ↓sl3, ↓sl4, ↓sl5, ↓sl6, ↓sl7, ↓sl8, true_and, and_true, zbj, decide_true, decide_false, List.getElem?_cons_zero, List.getElem?_cons_succ, List.set_cons_zero, List.set_cons_succ, hb]; exact ⟨false, rfl, no (decide_eq_false (by omega))⟩
                · simp (maxSteps := 4000000) (disch := decide) only [↓zdg, ↓zbx, ↓FL.then_nx, ↓FL.then_rt, ↓FL.then_bk, ↓FL.then_ct, ↓zbu, ↓zbv, ↓zcz, ↓zew, ↓zdc, ↓zex, ↓zdd, ↓zbw, ↓zev, ↓zeu, ↓zet, ↓zcy, ↓zda, ↓zdb, ↓zde, ↓zey, ↓zes, ↓zbi, ↓zfx, ↓zfy, ↓zci, ↓zcj, ↓zfp, ↓zbh, ↓zfh, ↓zfn, ↓zga, ↓zfl, ↓zdp, ↓zdo, ↓zfm, ↓zff, ↓zfk, ↓zgc, ↓zfd, ↓zgd, ↓zfq, ↓or1, ↓and2, ↓or2, ↓zdr, ↓zfs, ↓zds, ↓zft, ↓zfg, ↓zeg, ↓zcr, ↓zfo, ↓zfj, ↓zgb, ↓zfr, ↓zer, ↓zbk, ↓zge, ↓zfz, ↓zfi, ↓zdm, ↓zfe, ↓zdn, ↓zca, ↓zcb, ↓zfa, ↓zfv, ↓zez, ↓zfw, ↓zfc, ↓zfu, ↓zfb, ↓zdj, ↓zcd, ↓zdk, ↓zbl, ↓zdy, ↓zcf, ↓zdz, ↓zcg, ↓zch, ↓zbz, ↓zcc, ↓zdi, ↓zei, ↓zeh, ↓zdx, ↓zdw, ↓zdu, ↓zdq, ↓zea, ↓zcs, ↓zct, ↓zen, ↓zbg, ↓zcv, ↓zcu, ↓zcx, ↓zce, ↓reduceIte, and_self, ↓zbt, ↓zcq, ↓zbs, ↓zbm, ↓zdl, ↓zdf, ↓zby, ↓zec, ↓zed, ↓zee, ↓zef, ↓zdv, ↓zdt, ↓zem, ↓zek, ↓zel, ↓zej, ↓zcl, ↓zeb, ↓zck, ↓zcn, ↓zco, ↓zcm, ↓zbo, ↓zcp, ↓zbn, ↓zbq, ↓zbr, ↓zbp, ↓zal, ↓zak, ↓zai, ↓zba, ↓zaj, ↓zax, ↓zaw, ↓zau, ↓zbe, ↓zav, ↓zad, ↓zac, ↓zaa, ↓zay, ↓zab, ↓zap, ↓zao, ↓zam, ↓zbb, ↓zan, ↓zat, ↓zas, ↓zaq, ↓zbc, ↓zar, ↓zah, ↓zag, ↓zae, ↓zaz, ↓zaf, Bool.not_true, Bool.not_false, Bool.false_eq_true, zbf, zbd, ↓sl0, ↓sl1, ↓sl2, ↓sl3, ↓sl4, ↓sl5, ↓sl6, ↓sl7, ↓sl8, true_and, and_true, zbj, decide_true, decide_false, List.getElem?_cons_zero, List.getElem?_cons_succ, List.set_cons_zero, List.set_cons_succ, hb]; exact ⟨yes (decide_eq_true (by omega)), _, rfl⟩
    · subst eh eτ
      rw [List.length_map, List.take_length] at hf
      simp (maxSteps := 4000000) (disch := decide) only [↓zdg, ↓zbx, ↓FL.then_nx, ↓FL.then_rt, ↓FL.then_bk, ↓FL.then_ct, ↓zbu, ↓zbv, ↓zcz, ↓zew, ↓zdc, ↓zex, ↓zdd, ↓zbw, ↓zev, ↓zeu, ↓zet, ↓zcy, ↓zda, ↓zdb, ↓zde, ↓zey, ↓zes, ↓zbi, ↓zfx, ↓zfy, ↓zci, ↓zcj, ↓zfp, ↓zbh, ↓zfh, ↓zfn, ↓zga, ↓zfl, ↓zdp, ↓zdo, ↓zfm, ↓zff, ↓zfk, ↓zgc, ↓zfd, ↓zgd, ↓zfq, ↓or1, ↓and2, ↓or2, ↓zdr, ↓zfs, ↓zds, ↓zft, ↓zfg, ↓zeg, ↓zcr, ↓zfo, ↓zfj, ↓zgb, ↓zfr, ↓zer, ↓zbk, ↓zge, ↓zfz, ↓zfi, ↓zdm, ↓zfe, ↓zdn, ↓zca, ↓zcb, ↓zfa, ↓zfv, ↓zez, ↓zfw, ↓zfc, ↓zfu, ↓zfb, ↓zdj, ↓zcd, ↓zdk, ↓zbl, ↓zdy, ↓zcf, ↓zdz, ↓zcg, ↓zch, ↓zbz, ↓zcc, ↓zdi, ↓zei, ↓zeh, ↓zdx, ↓zdw, ↓zdu, ↓zdq, ↓zea, ↓zcs, ↓zct, ↓zen, ↓zbg, ↓zcv, ↓zcu, ↓zcx, ↓zce, ↓reduceIte, and_self, ↓zbt, ↓zcq, ↓zbs, ↓zbm, ↓zdl, ↓zdf, ↓zby, ↓zec, ↓zed, ↓zee, ↓zef, ↓zdv, ↓zdt, ↓zem, ↓zek, ↓zel, ↓zej, ↓zcl, ↓zeb, ↓zck, ↓zcn, ↓zco, ↓zcm, ↓zbo, ↓zcp, ↓zbn, ↓zbq, ↓zbr, ↓zbp, ↓zal, ↓zak, ↓zai, ↓zba, ↓zaj, ↓zax, ↓zaw, ↓zau, ↓zbe, ↓zav, ↓zad, ↓zac, ↓zaa, ↓zay, ↓zab, ↓zap, ↓zao, ↓zam, ↓zbb, ↓zan, ↓zat, ↓zas, ↓zaq, ↓zbc, ↓zar, ↓zah, ↓zag, ↓zae, ↓zaz, ↓zaf, Bool.not_true, Bool.not_false, Bool.false_eq_true, zbf, zbd, ↓sl0, ↓sl1, ↓sl2, ↓sl3, ↓sl4, ↓sl5, ↓sl6, ↓sl7, ↓sl8, true_and, and_true, zbj, decide_true, decide_false, List.getElem?_cons_zero, List.getElem?_cons_succ, List.set_cons_zero, List.set_cons_succ]
      exact ⟨hf, _, rfl⟩
  rintro τ2 h2 ⟨rfl, hf, z2, rfl⟩
  simp (maxSteps := 4000000) (disch := decide) only [↓zdg, ↓zbx, ↓FL.then_nx, ↓FL.then_rt, ↓FL.then_bk, ↓FL.then_ct, ↓zbu, ↓zbv, ↓zcz, ↓zew, ↓zdc, ↓zex, ↓zdd, ↓zbw, ↓zev, ↓zeu, ↓zet, ↓zcy, ↓zda, ↓zdb, ↓zde, ↓zey, ↓zes, ↓zbi, ↓zfx, ↓zfy, ↓zci, ↓zcj, ↓zfp, ↓zbh, ↓zfh, ↓zfn, ↓zga, ↓zfl, ↓zdp, ↓zdo, ↓zfm, ↓zff, ↓zfk, ↓zgc, ↓zfd, ↓zgd, ↓zfq, ↓or1, ↓and2, ↓or2, ↓zdr, ↓zfs, ↓zds, ↓zft, ↓zfg, ↓zeg, ↓zcr, ↓zfo, ↓zfj, ↓zgb, ↓zfr, ↓zer, ↓zbk, ↓zge, ↓zfz, ↓zfi, ↓zdm, ↓zfe, ↓zdn, ↓zca, ↓zcb, ↓zfa, ↓zfv, ↓zez, ↓zfw, ↓zfc, ↓zfu, ↓zfb, ↓zdj, ↓zcd, ↓zdk, ↓zbl, ↓zdy, ↓zcf, ↓zdz, ↓zcg, ↓zch, ↓zbz, ↓zcc, ↓zdi, ↓zei, ↓zeh, ↓zdx, ↓zdw, ↓zdu, ↓zdq, ↓zea, ↓zcs, ↓zct, ↓zen, ↓zbg, ↓zcv, ↓zcu, ↓zcx, ↓zce, ↓reduceIte, and_self, ↓zbt, ↓zcq, ↓zbs, ↓zbm, ↓zdl, ↓zdf, ↓zby, ↓zec, ↓zed, ↓zee, ↓zef, ↓zdv, ↓zdt, ↓zem, ↓zek, ↓zel, ↓zej, ↓zcl, ↓zeb, ↓zck, ↓zcn, ↓zco, ↓zcm, ↓zbo, ↓zcp, ↓zbn, ↓zbq, ↓zbr, ↓zbp, ↓zal, ↓zak, ↓zai, ↓zba, ↓zaj, ↓zax, ↓zaw, ↓zau, ↓zbe, ↓zav, ↓zad, ↓zac, ↓zaa, ↓zay, ↓zab, ↓zap, ↓zao, ↓zam, ↓zbb, ↓zan, ↓zat, ↓zas, ↓zaq, ↓zbc, ↓zar, ↓zah, ↓zag, ↓zae, ↓zaz, ↓zaf, Bool.not_true, Bool.not_false, Bool.false_eq_true, zbf, zbd, ↓sl0, ↓sl1, ↓sl2, ↓sl3, ↓sl4, ↓sl5, ↓sl6, ↓sl7, ↓sl8, true_and, and_true, zbj, decide_true, decide_false, List.getElem?_cons_zero, List.getElem?_cons_succ, List.set_cons_zero, List.set_cons_succ, tt29_28]
  exact rising_v hl hf hk fun b hb => ⟨b, rfl, hb, rfl⟩
end DL

set_option Elab.async false
set_option linter.all false
set_option maxRecDepth 100000
set_option maxHeartbeats 4000000
namespace DL
open PySem PySem.Spec PyProof.Rows L2
def sortI (es : List (Int × Int)) : List (Int × Int) := sortA ltP es
theorem sortI_sorted (es : List (Int × Int)) : (sortI es).Pairwise fun a b => a.1 ≤ b.1 := by
  have := sortA_sorted (lt := ltP) (l := es) (fun a b c h1 h2 => by
    unfold ltP at *
    split at h1 <;> split at h2 <;> split <;> simp only [decide_eq_false_iff_not] at * <;> omega) (fun a b => by
    unfold ltP
    split <;> split <;> simp only [decide_eq_false_iff_not] <;> omega)
  refine this.imp fun {a b} h => ?_
  unfold ltP at h
  split at h <;> simp only [decide_eq_false_iff_not] at h <;> omega
theorem memI_sort {es : List (Int × Int)} {x : Int} : memI (sortI es) x ↔ memI es x := by
  unfold memI sortI
  simp only [sortA_mem]
theorem lt_max' {x a b : Int} : x < max a b ↔ x < a ∨ x < b := by rw [Int.max_def]; split <;> omega
theorem map_snoc {α β : Type} {f : α → β} {l : List α} {x : α} : (l ++ [x]).map f = l.map f ++ [f x] := by simp
theorem simplified_v {E : XP} {P : D → Hd → Prop} {es : List (Int × Int)} {h : Hd} (hl : es.length ≤ 1000) (ne : ∀ p ∈ es, p.1 < p.2) (q : ∀ R h', CanonI R → (∀ x, memI R x ↔ memI es x) → R.length ≤ es.length → Kp h h' → P (.tup (R.map ipD)) h') : vC (E := E) fF2 [.tup (es.map ipD)] h P := by
  refine vC.mono (P := fun d h' => ∃ R, d = .tup (R.map ipD) ∧ CanonI R ∧ (∀ x, memI R x ↔ memI es x) ∧ R.length ≤ es.length ∧ Kp h h') ?_ fun d h' ⟨R, e, c, m, l, k⟩ => e ▸ q R h' c m l k
  refine runP_v (σ := [some (.tup (es.map ipD)), none, none, none]) (by rfl) (by rfl) ?_
  unfold bB2
  simp (maxSteps := 4000000) (disch := decide) only [↓zdg, ↓zbx, ↓FL.then_nx, ↓FL.then_rt, ↓FL.then_bk, ↓FL.then_ct, ↓zbu, ↓zbv, ↓zcz, ↓zew, ↓zdc, ↓zex, ↓zdd, ↓zbw, ↓zev, ↓zeu, ↓zet, ↓zcy, ↓zda, ↓zdb, ↓zde, ↓zey, ↓zes, ↓zbi, ↓zfx, ↓zfy, ↓zci, ↓zcj, ↓zfp, ↓zbh, ↓zfh, ↓zfn, ↓zga, ↓zfl, ↓zdp, ↓zdo, ↓zfm, ↓zff, ↓zfk, ↓zgc, ↓zfd, ↓zgd, ↓zfq, ↓or1, ↓and2, ↓or2, ↓zdr, ↓zfs, ↓zds, ↓zft, ↓zfg, ↓zeg, ↓zcr, ↓zfo, ↓zfj, ↓zgb, ↓zfr, ↓zer, ↓zbk, ↓zge, ↓zfz, ↓zfi, ↓zdm, ↓zfe, ↓zdn, ↓zca, ↓zcb, ↓zfa, ↓zfv, ↓zez, ↓zfw, ↓zfc, ↓zfu, ↓zfb, ↓zdj, ↓zcd, ↓zdk, ↓zbl, ↓zdy, ↓zcf, ↓zdz, ↓zcg, ↓zch, ↓zbz, ↓zcc, ↓zdi, ↓zei, ↓zeh, ↓zdx, ↓zdw, ↓zdu, ↓zdq, ↓zea, ↓zcs, ↓zct, ↓zen, ↓zbg, ↓zcv, ↓zcu, ↓zcx, ↓zce, ↓reduceIte, and_self, ↓zbt, ↓zcq, ↓zbs, ↓zbm, ↓zdl, ↓zdf, ↓zby, ↓zec, ↓zed, ↓zee, ↓zef, ↓zdv, ↓zdt, ↓zem, ↓zek, ↓zel, ↓zej, ↓zcl, ↓zeb, ↓zck, ↓zcn, ↓zco, ↓zcm, ↓zbo, ↓zcp, ↓zbn, ↓zbq, ↓zbr, ↓zbp, ↓zal, ↓zak, ↓zai, ↓zba, ↓zaj, ↓zax, ↓zaw, ↓zau, ↓zbe, ↓zav, ↓zad, ↓zac, ↓zaa, ↓zay, ↓zab, ↓zap, ↓zao, ↓zam, ↓zbb, ↓zan, ↓zat, ↓zas, ↓zaq, ↓zbc, ↓zar, ↓zah, ↓zag, ↓zae, ↓zaz, ↓zaf, Bool.not_true, Bool.not_false, Bool.false_eq_true, zbf, zbd, ↓sl0, ↓sl1, ↓sl2, ↓sl3, ↓sl4, ↓sl5, ↓sl6, ↓sl7, ↓sl8, true_and, and_true, zbj, decide_true, decide_false, List.getElem?_cons_zero, List.getElem?_cons_succ, List.set_cons_zero, List.set_cons_succ]
  refine sorted_v (ds := es.map ipD) rfl (by rw [List.length_map]; omega) so_ip ?_
  have es2 : sortB ((es.map ipD).zip (es.map ipD)) = (sortI es).map ipD := sortB_map (f := ipD) (kf := ipD) (lt := ltP) fun a _ b _ => ip_lt a b
  rw [es2, len1, snoc2]
  simp (maxSteps := 4000000) (disch := decide) only [↓zdg, ↓zbx, ↓FL.then_nx, ↓FL.then_rt, ↓FL.then_bk, ↓FL.then_ct, ↓zbu, ↓zbv, ↓zcz, ↓zew, ↓zdc, ↓zex, ↓zdd, ↓zbw, ↓zev, ↓zeu, ↓zet, ↓zcy, ↓zda, ↓zdb, ↓zde, ↓zey, ↓zes, ↓zbi, ↓zfx, ↓zfy, ↓zci, ↓zcj, ↓zfp, ↓zbh, ↓zfh, ↓zfn, ↓zga, ↓zfl, ↓zdp, ↓zdo, ↓zfm, ↓zff, ↓zfk, ↓zgc, ↓zfd, ↓zgd, ↓zfq, ↓or1, ↓and2, ↓or2, ↓zdr, ↓zfs, ↓zds, ↓zft, ↓zfg, ↓zeg, ↓zcr, ↓zfo, ↓zfj, ↓zgb, ↓zfr, ↓zer, ↓zbk, ↓zge, ↓zfz, ↓zfi, ↓zdm, ↓zfe, ↓zdn, ↓zca, ↓zcb, ↓zfa, ↓zfv, ↓zez, ↓zfw, ↓zfc, ↓zfu, ↓zfb, ↓zdj, ↓zcd, ↓zdk, ↓zbl, ↓zdy, ↓zcf, ↓zdz, ↓zcg, ↓zch, ↓zbz, ↓zcc, ↓zdi, ↓zei, ↓zeh, ↓zdx, ↓zdw, ↓zdu, ↓zdq, ↓zea, ↓zcs, ↓zct, ↓zen, ↓zbg, ↓zcv, ↓zcu, ↓zcx, ↓zce, ↓reduceIte, and_self, ↓zbt, ↓zcq, ↓zbs, ↓zbm, ↓zdl, ↓zdf, ↓zby, ↓zec, ↓zed, ↓zee, ↓zef, ↓zdv, ↓zdt, ↓zem, ↓zek, ↓zel, ↓zej, ↓zcl, ↓zeb, ↓zck, ↓zcn, ↓zco, ↓zcm, ↓zbo, ↓zcp, ↓zbn, ↓zbq, ↓zbr, ↓zbp, ↓zal, ↓zak, ↓zai, ↓zba, ↓zaj, ↓zax, ↓zaw, ↓zau, ↓zbe, ↓zav, ↓zad, ↓zac, ↓zaa, ↓zay, ↓zab, ↓zap, ↓zao, ↓zam, ↓zbb, ↓zan, ↓zat, ↓zas, ↓zaq, ↓zbc, ↓zar, ↓zah, ↓zag, ↓zae, ↓zaz, ↓zaf, Bool.not_true, Bool.not_false, Bool.false_eq_true, zbf, zbd, ↓sl0, ↓sl1, ↓sl2, ↓sl3, ↓sl4, ↓sl5, ↓sl6, ↓sl7, ↓sl8, true_and, and_true, zbj, decide_true, decide_false, List.getElem?_cons_zero, List.getElem?_cons_succ, List.set_cons_zero, List.set_cons_succ, ↓it_ref app2_1]
  have srt := sortI_sorted es
  refine for_sat (fun i τ h' => ∃ acc : List (Int × Int), h'[h.length]? = some (.lst (acc.map ipD)) ∧ h'[h.length + 1]? = some (.lst ((sortI es).map ipD)) ∧ Kp h h' ∧ CanonI acc ∧ (∀ x, memI acc x ↔ memI ((sortI es).take i) x) ∧ acc.length ≤ i ∧ (∀ p ∈ acc, ∀ q ∈ (sortI es).drop i, p.1 ≤ q.1) ∧ ∃ z2 z3, τ = [some (.tup (es.map ipD)), some (.ref h.length), z2, z3])
    ⟨[], app2_0, app2_1, .app, .nil, by simp, Nat.le_refl _, (fun _ z => nomatch z), _, _, rfl⟩ (fun i τ h' _ ⟨acc, e0, e1, _⟩ p hp => by rw [List.mem_singleton.mp hp]; exact e1) (fun i τ h' d hd ⟨acc, e0, e1, kp, cn, mm, ln, lo, z2, z3, eτ⟩ => ?_) fun τ h' ⟨acc, e0, e1, kp, cn, mm, ln, lo, z2, z3, eτ⟩ => ?_
  · subst eτ
    rw [List.getElem?_map] at hd
    cases ex : (sortI es)[i]? with
    | none => rw [ex] at hd; cases hd
    | some p =>
      rw [ex] at hd
      cases hd
      obtain ⟨s, e⟩ := p
      have hi := (List.getElem?_eq_some_iff.mp ex).1
      have hne : s < e := ne (s, e) (sortA_mem.mp (List.mem_of_getElem? ex))
      have hdr : (sortI es).drop i = (s, e) :: (sortI es).drop (i + 1) := by
        rw [List.drop_eq_getElem_cons hi]
        rw [List.getElem?_eq_getElem hi] at ex
        rw [Option.some.inj ex]
      have later : ∀ q ∈ (sortI es).drop (i + 1), s ≤ q.1 := fun q hq => by
        have := List.Pairwise.sublist (List.drop_sublist i _) srt
        rw [hdr] at this
        exact (List.pairwise_cons.mp this).1 q hq
      have hll : (sortI es).length ≤ 1000 := by unfold sortI; rw [sortA_len]; exact hl
      refine ⟨_, rfl, ?_⟩
      rw [take_snoc ex]
      rcases nil_or_snoc acc with rfl | ⟨r, ⟨a, b⟩, rfl⟩
      · simp (maxSteps := 4000000) (disch := decide) only [↓zdg, ↓zbx, ↓FL.then_nx, ↓FL.then_rt, ↓FL.then_bk, ↓FL.then_ct, ↓zbu, ↓zbv, ↓zcz, ↓zew, ↓zdc, ↓zex, ↓zdd, ↓zbw, ↓zev, ↓zeu, ↓zet, ↓zcy, ↓zda, ↓zdb, ↓zde, ↓zey, ↓zes, ↓zbi, ↓zfx, ↓zfy, ↓zci, ↓zcj, ↓zfp, ↓zbh, ↓zfh, ↓zfn, ↓zga, ↓zfl, ↓zdp, ↓zdo, ↓zfm, ↓zff, ↓zfk, ↓zgc, ↓zfd, ↓zgd, ↓zfq, ↓or1, ↓and2, ↓or2, ↓zdr, ↓zfs, ↓zds, ↓zft, ↓zfg, ↓zeg, ↓zcr, ↓zfo, ↓zfj, ↓zgb, ↓zfr, ↓zer, ↓zbk, ↓zge, ↓zfz, ↓zfi, ↓zdm, ↓zfe, ↓zdn, ↓zca, ↓zcb, ↓zfa, ↓zfv, ↓zez, ↓zfw, ↓zfc, ↓zfu, ↓zfb, ↓zdj, ↓zcd, ↓zdk, ↓zbl, ↓zdy, ↓zcf, ↓zdz, ↓zcg, ↓zch, ↓zbz, ↓zcc, ↓zdi, ↓zei, ↓zeh, ↓zdx, ↓zdw, ↓zdu, ↓zdq, ↓zea, ↓zcs, ↓zct, ↓zen, ↓zbg, ↓zcv, ↓zcu, ↓zcx, ↓zce, ↓reduceIte, and_self, ↓zbt, ↓zcq, ↓zbs, ↓zbm, ↓zdl, ↓zdf, ↓zby, ↓zec, ↓zed, ↓zee, ↓zef, ↓zdv, ↓zdt, ↓zem, ↓zek, ↓zel, ↓zej, ↓zcl, ↓zeb, ↓zck, ↓zcn, ↓zco, ↓zcm, ↓zbo, ↓zcp, ↓zbn, ↓zbq, ↓zbr, ↓zbp, ↓zal, ↓zak, ↓zai, ↓zba, ↓zaj, ↓zax, ↓zaw, ↓zau, ↓zbe, ↓zav, ↓zad, ↓zac, ↓zaa, ↓zay, ↓zab, ↓zap, ↓zao, ↓zam, ↓zbb, ↓zan, ↓zat, ↓zas, ↓zaq, ↓zbc, ↓zar, ↓zah, ↓zag, ↓zae, ↓zaz, ↓zaf, Bool.not_true, Bool.not_false, Bool.false_eq_true, zbf, zbd, ↓sl0, ↓sl1, ↓sl2, ↓sl3, ↓sl4, ↓sl5, ↓sl6, ↓sl7, ↓sl8, true_and, and_true, zbj, decide_true, decide_false, List.getElem?_cons_zero, List.getElem?_cons_succ, List.set_cons_zero, List.set_cons_succ, ipD, ↓tr_ref e0, List.map_nil, List.isEmpty_nil]
        refine app_v e0 (Nat.zero_le _) ?_
        refine ⟨[(s, e)], set_at e0, set_ne e1 (by omega), kp.put (Nat.le_refl _), CanonI.nil.push hne (fun _ z => nomatch z), fun x => ?_, Nat.succ_le_succ (Nat.zero_le _), fun p hp q hq => ?_, _, _, rfl⟩
        · rw [memI_append, ← mm x]; simp [memI_nil]
        · rw [List.mem_singleton.mp hp]; exact later q hq
      · have e0' : h'[h.length]? = some (.lst (r.map ipD ++ [ipD (a, b)])) := by rw [e0, map_snoc]
        have emp : (r.map ipD ++ [D.tup [.int a, .int b]]).isEmpty = false := by cases r <;> rfl
        have has : a ≤ s := lo (a, b) (by simp) (s, e) (by rw [hdr]; exact List.mem_cons_self)
        simp (maxSteps := 4000000) (disch := decide) only [↓zdg, ↓zbx, ↓FL.then_nx, ↓FL.then_rt, ↓FL.then_bk, ↓FL.then_ct, ↓zbu, ↓zbv, ↓zcz, ↓zew, ↓zdc, ↓zex, ↓zdd, ↓zbw, ↓zev, ↓zeu, ↓zet, ↓zcy, ↓zda, ↓zdb, ↓zde, ↓zey, ↓zes, ↓zbi, ↓zfx, ↓zfy, ↓zci, ↓zcj, ↓zfp, ↓zbh, ↓zfh, ↓zfn, ↓zga, ↓zfl, ↓zdp, ↓zdo, ↓zfm, ↓zff, ↓zfk, ↓zgc, ↓zfd, ↓zgd, ↓zfq, ↓or1, ↓and2, ↓or2, ↓zdr, ↓zfs, ↓zds, ↓zft, ↓zfg, ↓zeg, ↓zcr, ↓zfo, ↓zfj, ↓zgb, ↓zfr, ↓zer, ↓zbk, ↓zge, ↓zfz, ↓zfi, ↓zdm, ↓zfe, ↓zdn, ↓zca, ↓zcb, ↓zfa, ↓zfv, ↓zez, ↓zfw, ↓zfc, ↓zfu, ↓zfb, ↓zdj, ↓zcd, ↓zdk, ↓zbl, ↓zdy, ↓zcf, ↓zdz, ↓zcg, ↓zch, ↓zbz, ↓zcc, ↓zdi, ↓zei, ↓zeh, ↓zdx, ↓zdw, ↓zdu, ↓zdq, ↓zea, ↓zcs, ↓zct, ↓zen, ↓zbg, ↓zcv, ↓zcu, ↓zcx, ↓zce, ↓reduceIte, and_self, ↓zbt, ↓zcq, ↓zbs, ↓zbm, ↓zdl, ↓zdf, ↓zby, ↓zec, ↓zed, ↓zee, ↓zef, ↓zdv, ↓zdt, ↓zem, ↓zek, ↓zel, ↓zej, ↓zcl, ↓zeb, ↓zck, ↓zcn, ↓zco, ↓zcm, ↓zbo, ↓zcp, ↓zbn, ↓zbq, ↓zbr, ↓zbp, ↓zal, ↓zak, ↓zai, ↓zba, ↓zaj, ↓zax, ↓zaw, ↓zau, ↓zbe, ↓zav, ↓zad, ↓zac, ↓zaa, ↓zay, ↓zab, ↓zap, ↓zao, ↓zam, ↓zbb, ↓zan, ↓zat, ↓zas, ↓zaq, ↓zbc, ↓zar, ↓zah, ↓zag, ↓zae, ↓zaz, ↓zaf, Bool.not_true, Bool.not_false, Bool.false_eq_true, zbf, zbd, ↓sl0, ↓sl1, ↓sl2, ↓sl3, ↓sl4, ↓sl5, ↓sl6, ↓sl7, ↓sl8, true_and, and_true, zbj, decide_true, decide_false, List.getElem?_cons_zero, List.getElem?_cons_succ, List.set_cons_zero, List.set_cons_succ, ipD, ↓tr_ref e0', emp, ↓ix_last e0']
        by_cases hb : s ≤ b
        · simp (maxSteps := 4000000) (disch := decide) only [↓zdg, ↓zbx, ↓FL.then_nx, ↓FL.then_rt, ↓FL.then_bk, ↓FL.then_ct, ↓zbu, ↓zbv, ↓zcz, ↓zew, ↓zdc, ↓zex, ↓zdd, ↓zbw, ↓zev, ↓zeu, ↓zet, ↓zcy, ↓zda, ↓zdb, ↓zde, ↓zey, ↓zes, ↓zbi, ↓zfx, ↓zfy, ↓zci, ↓zcj, ↓zfp, ↓zbh, ↓zfh, ↓zfn, ↓zga, ↓zfl, ↓zdp, ↓zdo, ↓zfm, ↓zff, ↓zfk, ↓zgc, ↓zfd, ↓zgd, ↓zfq, ↓or1, ↓and2, ↓or2, ↓zdr, ↓zfs, ↓zds, ↓zft, ↓zfg, ↓zeg, ↓zcr, ↓zfo, ↓zfj, ↓zgb, ↓zfr, ↓zer, ↓zbk, ↓zge, ↓zfz, ↓zfi, ↓zdm, ↓zfe, ↓zdn, ↓zca, ↓zcb, ↓zfa, ↓zfv, ↓zez, ↓zfw, ↓zfc, ↓zfu, ↓zfb, ↓zdj, ↓zcd, ↓zdk, ↓zbl, ↓zdy, ↓zcf, ↓zdz, ↓zcg, ↓zch, ↓zbz, ↓zcc, ↓zdi, ↓zei, ↓zeh, ↓zdx, ↓zdw, ↓zdu, ↓zdq, ↓zea, ↓zcs, ↓zct, ↓zen, ↓zbg, ↓zcv, ↓zcu, ↓zcx, ↓zce, ↓reduceIte, and_self, ↓zbt, ↓zcq, ↓zbs, ↓zbm, ↓zdl, ↓zdf, ↓zby, ↓zec, ↓zed, ↓zee, ↓zef, ↓zdv, ↓zdt, ↓zem, ↓zek, ↓zel, ↓zej, ↓zcl, ↓zeb, ↓zck, ↓zcn, ↓zco, ↓zcm, ↓zbo, ↓zcp, ↓zbn, ↓zbq, ↓zbr, ↓zbp, ↓zal, ↓zak, ↓zai, ↓zba, ↓zaj, ↓zax, ↓zaw, ↓zau, ↓zbe, ↓zav, ↓zad, ↓zac, ↓zaa, ↓zay, ↓zab, ↓zap, ↓zao, ↓zam, ↓zbb, ↓zan, ↓zat, ↓zas, ↓zaq, ↓zbc, ↓zar, ↓zah, ↓zag, ↓zae, ↓zaz, ↓zaf, Bool.not_true, Bool.not_false, Bool.false_eq_true, zbf, zbd, ↓sl0, ↓sl1, ↓sl2, ↓sl3, ↓sl4, ↓sl5, ↓sl6, ↓sl7, ↓sl8, true_and, and_true, zbj, decide_true, decide_false, List.getElem?_cons_zero, List.getElem?_cons_succ, List.set_cons_zero, List.set_cons_succ, hb, setD_last e0']
          have eb : (if e > b then e else b) = max b e := by
            rw [Int.max_def]; split <;> split <;> omega
          rw [eb]
          refine ⟨r ++ [(a, max b e)], by rw [map_snoc]; exact set_at e0', set_ne e1 (by omega), kp.put (Nat.le_refl _), cn.grow (Int.le_max_left _ _), fun x => ?_, by simp at ln ⊢; omega, fun p hp q hq => ?_, _, _, rfl⟩
          · rw [memI_append, memI_append, ← mm x, memI_append, memI_one, memI_one, memI_one, lt_max']
            show (memI r x ∨ a ≤ x ∧ (x < b ∨ x < e)) ↔ (memI r x ∨ a ≤ x ∧ x < b) ∨ s ≤ x ∧ x < e
            constructor
            · rintro (h | ⟨h1, h2 | h2⟩)
              · exact .inl (.inl h)
              · exact .inl (.inr ⟨h1, h2⟩)
              · by_cases hx : x < b
                · exact .inl (.inr ⟨h1, hx⟩)
                · exact .inr ⟨by omega, h2⟩
            · rintro ((h | ⟨h1, h2⟩) | ⟨h1, h2⟩)
              · exact .inl h
              · exact .inr ⟨h1, .inl h2⟩
              · exact .inr ⟨by omega, .inr h2⟩
          · have hq' : q ∈ (sortI es).drop i := by rw [hdr]; exact List.mem_cons_of_mem _ hq
            rcases List.mem_append.mp hp with z | z
            · exact lo p (List.mem_append_left _ z) q hq'
            · rw [List.mem_singleton.mp z]; exact lo (a, b) (by simp) q hq'
        · simp (maxSteps := 4000000) (disch := decide) only [↓zdg, ↓zbx, ↓FL.then_nx, ↓FL.then_rt, ↓FL.then_bk, ↓FL.then_ct, ↓zbu, ↓zbv, ↓zcz, ↓zew, ↓zdc, ↓zex, ↓zdd, ↓zbw, ↓zev, ↓zeu, ↓zet, ↓zcy, ↓zda, ↓zdb, ↓zde, ↓zey, ↓zes, ↓zbi, ↓zfx, ↓zfy, ↓zci, ↓zcj, ↓zfp, ↓zbh, ↓zfh, ↓zfn, ↓zga, ↓zfl, ↓zdp, ↓zdo, ↓zfm, ↓zff, ↓zfk, ↓zgc, ↓zfd, ↓zgd, ↓zfq, ↓or1, ↓and2, ↓or2, ↓zdr, ↓zfs, ↓zds, ↓zft, ↓zfg, ↓zeg, ↓zcr, ↓zfo, ↓zfj, ↓zgb, ↓zfr, ↓zer, ↓zbk, ↓zge, ↓zfz, ↓zfi, ↓zdm, ↓zfe, ↓zdn, ↓zca, ↓zcb, ↓zfa, ↓zfv, ↓zez, ↓zfw, ↓zfc, ↓zfu, ↓zfb, ↓zdj, ↓zcd, ↓zdk, ↓zbl, ↓zdy, ↓zcf, ↓zdz, ↓zcg, ↓zch, ↓zbz, ↓zcc, ↓zdi, ↓zei, ↓zeh, ↓zdx, ↓zdw, ↓zdu, ↓zdq, ↓zea, ↓zcs, ↓zct, ↓zen, ↓zbg, ↓zcv, ↓zcu, ↓zcx, ↓zce, ↓reduceIte, and_self, ↓zbt, ↓zcq, ↓zbs, ↓zbm, ↓zdl, ↓zdf, ↓zby, ↓zec, ↓zed, ↓zee, ↓zef, ↓zdv, ↓zdt, ↓zem, ↓zek, ↓zel, ↓zej, ↓zcl, ↓zeb, ↓zck, ↓zcn, ↓zco, ↓zcm, ↓zbo, ↓zcp, ↓zbn, ↓zbq, ↓zbr, ↓zbp, ↓zal, ↓zak, ↓zai, ↓zba, ↓zaj, ↓zax, ↓zaw, ↓zau, ↓zbe, ↓zav, ↓zad, ↓zac, ↓zaa, ↓zay, ↓zab, ↓zap, ↓zao, ↓zam, ↓zbb, ↓zan, ↓zat, ↓zas, ↓zaq, ↓zbc, ↓zar, ↓zah, ↓zag, ↓zae, ↓zaz, ↓zaf, Bool.not_true, Bool.not_false, Bool.false_eq_true, zbf, zbd, ↓sl0, ↓sl1, ↓sl2, ↓sl3, ↓sl4, ↓sl5, ↓sl6, ↓sl7, ↓sl8, true_and, and_true, zbj, decide_true, decide_false, List.getElem?_cons_zero, List.getElem?_cons_succ, List.set_cons_zero, List.set_cons_succ, hb]
          refine app_v e0' (by simp at ln ⊢; omega) ?_
          refine ⟨r ++ [(a, b)] ++ [(s, e)], by rw [map_snoc, map_snoc]; exact set_at e0', set_ne e1 (by omega), kp.put (Nat.le_refl _), cn.push hne (fun q hq => ?_), fun x => by rw [memI_append, mm x, memI_append], by simp at ln ⊢; omega, fun p hp q hq => ?_, _, _, rfl⟩
          · obtain ⟨c1, c2, c3⟩ := cn.init
            rcases List.mem_append.mp hq with z | z
            · have := c3 q z
              have c2 : a < b := c2
              have this : q.2 < a := this
              show q.2 < s
              omega
            · rw [List.mem_singleton.mp z]; show b < s; omega
          · rcases List.mem_append.mp hp with z | z
            · exact lo p z q (by rw [hdr]; exact List.mem_cons_of_mem _ hq)
            · rw [List.mem_singleton.mp z]; exact later q hq
  · subst eτ
    simp (maxSteps := 4000000) (disch := decide) only [↓zdg, ↓zbx, ↓FL.then_nx, ↓FL.then_rt, ↓FL.then_bk, ↓FL.then_ct, ↓zbu, ↓zbv, ↓zcz, ↓zew, ↓zdc, ↓zex, ↓zdd, ↓zbw, ↓zev, ↓zeu, ↓zet, ↓zcy, ↓zda, ↓zdb, ↓zde, ↓zey, ↓zes, ↓zbi, ↓zfx, ↓zfy, ↓zci, ↓zcj, ↓zfp, ↓zbh, ↓zfh, ↓zfn, ↓zga, ↓zfl, ↓zdp, ↓zdo, ↓zfm, ↓zff, ↓zfk, ↓zgc, ↓zfd, ↓zgd, ↓zfq, ↓or1, ↓and2, ↓or2, ↓zdr, ↓zfs, ↓zds, ↓zft, ↓zfg, ↓zeg, ↓zcr, ↓zfo, ↓zfj, ↓zgb, ↓zfr, ↓zer, ↓zbk, ↓zge, ↓zfz, ↓zfi, ↓zdm, ↓zfe, ↓zdn, ↓zca, ↓zcb, ↓zfa, ↓zfv, ↓zez, ↓zfw, ↓zfc, ↓zfu, ↓zfb, ↓zdj, ↓zcd, ↓zdk, ↓zbl, ↓zdy, ↓zcf, ↓zdz, ↓zcg, ↓zch, ↓zbz, ↓zcc, ↓zdi, ↓zei, ↓zeh, ↓zdx, ↓zdw, ↓zdu, ↓zdq, ↓zea, ↓zcs, ↓zct, ↓zen, ↓zbg, ↓zcv, ↓zcu, ↓zcx, ↓zce, ↓reduceIte, and_self, ↓zbt, ↓zcq, ↓zbs, ↓zbm, ↓zdl, ↓zdf, ↓zby, ↓zec, ↓zed, ↓zee, ↓zef, ↓zdv, ↓zdt, ↓zem, ↓zek, ↓zel, ↓zej, ↓zcl, ↓zeb, ↓zck, ↓zcn, ↓zco, ↓zcm, ↓zbo, ↓zcp, ↓zbn, ↓zbq, ↓zbr, ↓zbp, ↓zal, ↓zak, ↓zai, ↓zba, ↓zaj, ↓zax, ↓zaw, ↓zau, ↓zbe, ↓zav, ↓zad, ↓zac, ↓zaa, ↓zay, ↓zab, ↓zap, ↓zao, ↓zam, ↓zbb, ↓zan, ↓zat, ↓zas, ↓zaq, ↓zbc, ↓zar, ↓zah, ↓zag, ↓zae, ↓zaz, ↓zaf, Bool.not_true, Bool.not_false, Bool.false_eq_true, zbf, zbd, ↓sl0, ↓sl1, ↓sl2, ↓sl3, ↓sl4, ↓sl5, ↓sl6, ↓sl7, ↓sl8, true_and, and_true, zbj, decide_true, decide_false, List.getElem?_cons_zero, List.getElem?_cons_succ, List.set_cons_zero, List.set_cons_succ, ↓tuple_v (seqOf_ref e0)]
    refine ⟨acc, rfl, cn, fun x => ?_, ?_, kp⟩
    · rw [mm x, List.length_map, List.take_length, memI_sort]
    · rw [List.length_map] at ln
      unfold sortI at ln
      rw [sortA_len] at ln
      exact ln
end DL

set_option Elab.async false
set_option linter.all false
set_option maxRecDepth 100000
set_option maxHeartbeats 4000000
namespace DL
open PySem PySem.Spec PyProof.Rows L2
theorem check_interval_e {s e : Int} (hs : s < e) (h : Hd) : fF3 [.int s, .int e] h = .ok .non h := Res.sat_eq (by
  refine runP_v (σ := [some (.int s), some (.int e)]) (by rfl) (by rfl) ?_
  unfold bB3
  have n : decide (e ≤ s) = false := decide_eq_false (by omega)
  simp (maxSteps := 4000000) (disch := decide) only [↓zdg, ↓zbx, ↓FL.then_nx, ↓FL.then_rt, ↓FL.then_bk, ↓FL.then_ct, ↓zbu, ↓zbv, ↓zcz, ↓zew, ↓zdc, ↓zex, ↓zdd, ↓zbw, ↓zev, ↓zeu, ↓zet, ↓zcy, ↓zda, ↓zdb, ↓zde, ↓zey, ↓zes, ↓zbi, ↓zfx, ↓zfy, ↓zci, ↓zcj, ↓zfp, ↓zbh, ↓zfh, ↓zfn, ↓zga, ↓zfl, ↓zdp, ↓zdo, ↓zfm, ↓zff, ↓zfk, ↓zgc, ↓zfd, ↓zgd, ↓zfq, ↓or1, ↓and2, ↓or2, ↓zdr, ↓zfs, ↓zds, ↓zft, ↓zfg, ↓zeg, ↓zcr, ↓zfo, ↓zfj, ↓zgb, ↓zfr, ↓zer, ↓zbk, ↓zge, ↓zfz, ↓zfi, ↓zdm, ↓zfe, ↓zdn, ↓zca, ↓zcb, ↓zfa, ↓zfv, ↓zez, ↓zfw, ↓zfc, ↓zfu, ↓zfb, ↓zdj, ↓zcd, ↓zdk, ↓zbl, ↓zdy, ↓zcf, ↓zdz, ↓zcg, ↓zch, ↓zbz, ↓zcc, ↓zdi, ↓zei, ↓zeh, ↓zdx, ↓zdw, ↓zdu, ↓zdq, ↓zea, ↓zcs, ↓zct, ↓zen, ↓zbg, ↓zcv, ↓zcu, ↓zcx, ↓zce, ↓reduceIte, and_self, ↓zbt, ↓zcq, ↓zbs, ↓zbm, ↓zdl, ↓zdf, ↓zby, ↓zec, ↓zed, ↓zee, ↓zef, ↓zdv, ↓zdt, ↓zem, ↓zek, ↓zel, ↓zej, ↓zcl, ↓zeb, ↓zck, ↓zcn, ↓zco, ↓zcm, ↓zbo, ↓zcp, ↓zbn, ↓zbq, ↓zbr, ↓zbp, ↓zal, ↓zak, ↓zai, ↓zba, ↓zaj, ↓zax, ↓zaw, ↓zau, ↓zbe, ↓zav, ↓zad, ↓zac, ↓zaa, ↓zay, ↓zab, ↓zap, ↓zao, ↓zam, ↓zbb, ↓zan, ↓zat, ↓zas, ↓zaq, ↓zbc, ↓zar, ↓zah, ↓zag, ↓zae, ↓zaz, ↓zaf, Bool.not_true, Bool.not_false, Bool.false_eq_true, zbf, zbd, ↓sl0, ↓sl1, ↓sl2, ↓sl3, ↓sl4, ↓sl5, ↓sl6, ↓sl7, ↓sl8, true_and, and_true, zbj, decide_true, decide_false, List.getElem?_cons_zero, List.getElem?_cons_succ, List.set_cons_zero, List.set_cons_succ, n])
theorem check_interval_x {E : XP} {P : D → Hd → Prop} {s e : Int} {h : Hd} (hs : e ≤ s) (q : E ⟨0, []⟩ h) : vC (E := E) fF3 [.int s, .int e] h P := by
  refine vC.monoE (P := P) (E' := E) ?_ (fun _ _ z => z) fun _ _ z => z
  refine runP_vE (σ := [some (.int s), some (.int e)]) (by rfl) (by rfl) ?_
  unfold bB3
  simp (maxSteps := 4000000) (disch := decide) only [↓zdg, ↓zbx, ↓FL.then_nx, ↓FL.then_rt, ↓FL.then_bk, ↓FL.then_ct, ↓zbu, ↓zbv, ↓zcz, ↓zew, ↓zdc, ↓zex, ↓zdd, ↓zbw, ↓zev, ↓zeu, ↓zet, ↓zcy, ↓zda, ↓zdb, ↓zde, ↓zey, ↓zes, ↓zbi, ↓zfx, ↓zfy, ↓zci, ↓zcj, ↓zfp, ↓zbh, ↓zfh, ↓zfn, ↓zga, ↓zfl, ↓zdp, ↓zdo, ↓zfm, ↓zff, ↓zfk, ↓zgc, ↓zfd, ↓zgd, ↓zfq, ↓or1, ↓and2, ↓or2, ↓zdr, ↓zfs, ↓zds, ↓zft, ↓zfg, ↓zeg, ↓zcr, ↓zfo, ↓zfj, ↓zgb, ↓zfr, ↓zer, ↓zbk, ↓zge, ↓zfz, ↓zfi, ↓zdm, ↓zfe, ↓zdn, ↓zca, ↓zcb, ↓zfa, ↓zfv, ↓zez, ↓zfw, ↓zfc, ↓zfu, ↓zfb, ↓zdj, ↓zcd, ↓zdk, ↓zbl, ↓zdy, ↓zcf, ↓zdz, ↓zcg, ↓zch, ↓zbz, ↓zcc, ↓zdi, ↓zei, ↓zeh, ↓zdx, ↓zdw, ↓zdu, ↓zdq, ↓zea, ↓zcs, ↓zct, ↓zen, ↓zbg, ↓zcv, ↓zcu, ↓zcx, ↓zce, ↓reduceIte, and_self, ↓zbt, ↓zcq, ↓zbs, ↓zbm, ↓zdl, ↓zdf, ↓zby, ↓zec, ↓zed, ↓zee, ↓zef, ↓zdv, ↓zdt, ↓zem, ↓zek, ↓zel, ↓zej, ↓zcl, ↓zeb, ↓zck, ↓zcn, ↓zco, ↓zcm, ↓zbo, ↓zcp, ↓zbn, ↓zbq, ↓zbr, ↓zbp, ↓zal, ↓zak, ↓zai, ↓zba, ↓zaj, ↓zax, ↓zaw, ↓zau, ↓zbe, ↓zav, ↓zad, ↓zac, ↓zaa, ↓zay, ↓zab, ↓zap, ↓zao, ↓zam, ↓zbb, ↓zan, ↓zat, ↓zas, ↓zaq, ↓zbc, ↓zar, ↓zah, ↓zag, ↓zae, ↓zaz, ↓zaf, Bool.not_true, Bool.not_false, Bool.false_eq_true, zbf, zbd, ↓sl0, ↓sl1, ↓sl2, ↓sl3, ↓sl4, ↓sl5, ↓sl6, ↓sl7, ↓sl8, true_and, and_true, zbj, decide_true, decide_false, List.getElem?_cons_zero, List.getElem?_cons_succ, List.set_cons_zero, List.set_cons_succ, hs]
  exact q
theorem intervals_of_v {E : XP} {P : D → Hd → Prop} {es S : List (Int × Int)} {h : Hd} (hl : es.length ≤ 1000) (ne : ∀ p ∈ es, p.1 < p.2) (cS : CanonI S) (mS : ∀ x, memI S x ↔ memI es x) (q : ∀ h', Kp h h' → P (.tup (S.map ipD)) h') : vC (E := E) fF4 [.tup (es.map ipD)] h P := by
  refine vC.mono (P := fun d h' => d = .tup (S.map ipD) ∧ Kp h h') ?_ fun d h' ⟨e, k⟩ => e ▸ q h' k
  refine runP_v (σ := [some (.tup (es.map ipD)), none, none]) (by rfl) (by rfl) ?_
  unfold bB4
  refine ss_mid (fun τ h' => h' = h ∧ ∃ z1 z2, τ = [some (.tup (es.map ipD)), z1, z2]) ?_ ?_
  · simp (maxSteps := 4000000) (disch := decide) only [↓zdg, ↓zbx, ↓FL.then_nx, ↓FL.then_rt, ↓FL.then_bk, ↓FL.then_ct, ↓zbu, ↓zbv, ↓zcz, ↓zew, ↓zdc, ↓zex, ↓zdd, ↓zbw, ↓zev, ↓zeu, ↓zet, ↓zcy, ↓zda, ↓zdb, ↓zde, ↓zey, ↓zes, ↓zbi, ↓zfx, ↓zfy, ↓zci, ↓zcj, ↓zfp, ↓zbh, ↓zfh, ↓zfn, ↓zga, ↓zfl, ↓zdp, ↓zdo, ↓zfm, ↓zff, ↓zfk, ↓zgc, ↓zfd, ↓zgd, ↓zfq, ↓or1, ↓and2, ↓or2, ↓zdr, ↓zfs, ↓zds, ↓zft, ↓zfg, ↓zeg, ↓zcr, ↓zfo, ↓zfj, ↓zgb, ↓zfr, ↓zer, ↓zbk, ↓zge, ↓zfz, ↓zfi, ↓zdm, ↓zfe, ↓zdn, ↓zca, ↓zcb, ↓zfa, ↓zfv, ↓zez, ↓zfw, ↓zfc, ↓zfu, ↓zfb, ↓zdj, ↓zcd, ↓zdk, ↓zbl, ↓zdy, ↓zcf, ↓zdz, ↓zcg, ↓zch, ↓zbz, ↓zcc, ↓zdi, ↓zei, ↓zeh, ↓zdx, ↓zdw, ↓zdu, ↓zdq, ↓zea, ↓zcs, ↓zct, ↓zen, ↓zbg, ↓zcv, ↓zcu, ↓zcx, ↓zce, ↓reduceIte, and_self, ↓zbt, ↓zcq, ↓zbs, ↓zbm, ↓zdl, ↓zdf, ↓zby, ↓zec, ↓zed, ↓zee, ↓zef, ↓zdv, ↓zdt, ↓zem, ↓zek, ↓zel, ↓zej, ↓zcl, ↓zeb, ↓zck, ↓zcn, ↓zco, ↓zcm, ↓zbo, ↓zcp, ↓zbn, ↓zbq, ↓zbr, ↓zbp, ↓zal, ↓zak, ↓zai, ↓zba, ↓zaj, ↓zax, ↓zaw, ↓zau, ↓zbe, ↓zav, ↓zad, ↓zac, ↓zaa, ↓zay, ↓zab, ↓zap, ↓zao, ↓zam, ↓zbb, ↓zan, ↓zat, ↓zas, ↓zaq, ↓zbc, ↓zar, ↓zah, ↓zag, ↓zae, ↓zaz, ↓zaf, Bool.not_true, Bool.not_false, Bool.false_eq_true, zbf, zbd, ↓sl0, ↓sl1, ↓sl2, ↓sl3, ↓sl4, ↓sl5, ↓sl6, ↓sl7, ↓sl8, true_and, and_true, zbj, decide_true, decide_false, List.getElem?_cons_zero, List.getElem?_cons_succ, List.set_cons_zero, List.set_cons_succ]
    refine for_sat (fun i τ h' => h' = h ∧ ∃ z1 z2, τ = [some (.tup (es.map ipD)), z1, z2]) ⟨rfl, _, _, rfl⟩ (fun _ _ _ _ _ _ z => nomatch z) (fun i τ h' d hd ⟨eh, z2, z3, eτ⟩ => ?_) fun τ h' ⟨eh, z2, z3, eτ⟩ => ?_
    · subst eh eτ
      rw [List.getElem?_map] at hd
      cases ex : es[i]? with
      | none => rw [ex] at hd; cases hd
      | some p =>
        rw [ex] at hd
        cases hd
        refine ⟨_, rfl, ?_⟩
        simp (maxSteps := 4000000) (disch := decide) only [↓zdg, ↓zbx, ↓FL.then_nx, ↓FL.then_rt, ↓FL.then_bk, ↓FL.then_ct, ↓zbu, ↓zbv, ↓zcz, ↓zew, ↓zdc, ↓zex, ↓zdd, ↓zbw, ↓zev, ↓zeu, ↓zet, ↓zcy, ↓zda, ↓zdb, ↓zde, ↓zey, ↓zes, ↓zbi, ↓zfx, ↓zfy, ↓zci, ↓zcj, ↓zfp, ↓zbh, ↓zfh, ↓zfn, ↓zga, ↓zfl, ↓zdp, ↓zdo, ↓zfm, ↓zff, ↓zfk, ↓zgc, ↓zfd, ↓zgd, ↓zfq, ↓or1, ↓and2, ↓or2, ↓zdr, ↓zfs, ↓zds, ↓zft, ↓zfg, ↓zeg, ↓zcr, ↓zfo, ↓zfj, ↓zgb, ↓zfr, ↓zer, ↓zbk, ↓zge, ↓zfz, ↓zfi, ↓zdm, ↓zfe, ↓zdn, ↓zca, ↓zcb, ↓zfa, ↓zfv, ↓zez, ↓zfw, ↓zfc, ↓zfu, ↓zfb, ↓zdj, ↓zcd, ↓zdk, ↓zbl, ↓zdy, ↓zcf, ↓zdz, ↓zcg, ↓zch, ↓zbz, ↓zcc, ↓zdi, ↓zei, ↓zeh, ↓zdx, ↓zdw, ↓zdu, ↓zdq, ↓zea, ↓zcs, ↓zct, ↓zen, ↓zbg, ↓zcv, ↓zcu, ↓zcx, ↓zce, ↓reduceIte, and_self, ↓zbt, ↓zcq, ↓zbs, ↓zbm, ↓zdl, ↓zdf, ↓zby, ↓zec, ↓zed, ↓zee, ↓zef, ↓zdv, ↓zdt, ↓zem, ↓zek, ↓zel, ↓zej, ↓zcl, ↓zeb, ↓zck, ↓zcn, ↓zco, ↓zcm, ↓zbo, ↓zcp, ↓zbn, ↓zbq, ↓zbr, ↓zbp, ↓zal, ↓zak, ↓zai, ↓zba, ↓zaj, ↓zax, ↓zaw, ↓zau, ↓zbe, ↓zav, ↓zad, ↓zac, ↓zaa, ↓zay, ↓zab, ↓zap, ↓zao, ↓zam, ↓zbb, ↓zan, ↓zat, ↓zas, ↓zaq, ↓zbc, ↓zar, ↓zah, ↓zag, ↓zae, ↓zaz, ↓zaf, Bool.not_true, Bool.not_false, Bool.false_eq_true, zbf, zbd, ↓sl0, ↓sl1, ↓sl2, ↓sl3, ↓sl4, ↓sl5, ↓sl6, ↓sl7, ↓sl8, true_and, and_true, zbj, decide_true, decide_false, List.getElem?_cons_zero, List.getElem?_cons_succ, List.set_cons_zero, List.set_cons_succ, ipD, tt4_1, tt4_2, tt4_3, ↓v_is (check_interval_e (ne p (List.mem_of_getElem? ex)) h')]
        exact ⟨_, _, rfl⟩
    · subst eh eτ
      simp (maxSteps := 4000000) (disch := decide) only [↓zdg, ↓zbx, ↓FL.then_nx, ↓FL.then_rt, ↓FL.then_bk, ↓FL.then_ct, ↓zbu, ↓zbv, ↓zcz, ↓zew, ↓zdc, ↓zex, ↓zdd, ↓zbw, ↓zev, ↓zeu, ↓zet, ↓zcy, ↓zda, ↓zdb, ↓zde, ↓zey, ↓zes, ↓zbi, ↓zfx, ↓zfy, ↓zci, ↓zcj, ↓zfp, ↓zbh, ↓zfh, ↓zfn, ↓zga, ↓zfl, ↓zdp, ↓zdo, ↓zfm, ↓zff, ↓zfk, ↓zgc, ↓zfd, ↓zgd, ↓zfq, ↓or1, ↓and2, ↓or2, ↓zdr, ↓zfs, ↓zds, ↓zft, ↓zfg, ↓zeg, ↓zcr, ↓zfo, ↓zfj, ↓zgb, ↓zfr, ↓zer, ↓zbk, ↓zge, ↓zfz, ↓zfi, ↓zdm, ↓zfe, ↓zdn, ↓zca, ↓zcb, ↓zfa, ↓zfv, ↓zez, ↓zfw, ↓zfc, ↓zfu, ↓zfb, ↓zdj, ↓zcd, ↓zdk, ↓zbl, ↓zdy, ↓zcf, ↓zdz, ↓zcg, ↓zch, ↓zbz, ↓zcc, ↓zdi, ↓zei, ↓zeh, ↓zdx, ↓zdw, ↓zdu, ↓zdq, ↓zea, ↓zcs, ↓zct, ↓zen, ↓zbg, ↓zcv, ↓zcu, ↓zcx, ↓zce, ↓reduceIte, and_self, ↓zbt, ↓zcq, ↓zbs, ↓zbm, ↓zdl, ↓zdf, ↓zby, ↓zec, ↓zed, ↓zee, ↓zef, ↓zdv, ↓zdt, ↓zem, ↓zek, ↓zel, ↓zej, ↓zcl, ↓zeb, ↓zck, ↓zcn, ↓zco, ↓zcm, ↓zbo, ↓zcp, ↓zbn, ↓zbq, ↓zbr, ↓zbp, ↓zal, ↓zak, ↓zai, ↓zba, ↓zaj, ↓zax, ↓zaw, ↓zau, ↓zbe, ↓zav, ↓zad, ↓zac, ↓zaa, ↓zay, ↓zab, ↓zap, ↓zao, ↓zam, ↓zbb, ↓zan, ↓zat, ↓zas, ↓zaq, ↓zbc, ↓zar, ↓zah, ↓zag, ↓zae, ↓zaz, ↓zaf, Bool.not_true, Bool.not_false, Bool.false_eq_true, zbf, zbd, ↓sl0, ↓sl1, ↓sl2, ↓sl3, ↓sl4, ↓sl5, ↓sl6, ↓sl7, ↓sl8, true_and, and_true, zbj, decide_true, decide_false, List.getElem?_cons_zero, List.getElem?_cons_succ, List.set_cons_zero, List.set_cons_succ]
      exact ⟨_, _, rfl⟩
  rintro τ' h' ⟨rfl, z2, z3, rfl⟩
  simp (maxSteps := 4000000) (disch := decide) only [↓zdg, ↓zbx, ↓FL.then_nx, ↓FL.then_rt, ↓FL.then_bk, ↓FL.then_ct, ↓zbu, ↓zbv, ↓zcz, ↓zew, ↓zdc, ↓zex, ↓zdd, ↓zbw, ↓zev, ↓zeu, ↓zet, ↓zcy, ↓zda, ↓zdb, ↓zde, ↓zey, ↓zes, ↓zbi, ↓zfx, ↓zfy, ↓zci, ↓zcj, ↓zfp, ↓zbh, ↓zfh, ↓zfn, ↓zga, ↓zfl, ↓zdp, ↓zdo, ↓zfm, ↓zff, ↓zfk, ↓zgc, ↓zfd, ↓zgd, ↓zfq, ↓or1, ↓and2, ↓or2, ↓zdr, ↓zfs, ↓zds, ↓zft, ↓zfg, ↓zeg, ↓zcr, ↓zfo, ↓zfj, ↓zgb, ↓zfr, ↓zer, ↓zbk, ↓zge, ↓zfz, ↓zfi, ↓zdm, ↓zfe, ↓zdn, ↓zca, ↓zcb, ↓zfa, ↓zfv, ↓zez, ↓zfw, ↓zfc, ↓zfu, ↓zfb, ↓zdj, ↓zcd, ↓zdk, ↓zbl, ↓zdy, ↓zcf, ↓zdz, ↓zcg, ↓zch, ↓zbz, ↓zcc, ↓zdi, ↓zei, ↓zeh, ↓zdx, ↓zdw, ↓zdu, ↓zdq, ↓zea, ↓zcs, ↓zct, ↓zen, ↓zbg, ↓zcv, ↓zcu, ↓zcx, ↓zce, ↓reduceIte, and_self, ↓zbt, ↓zcq, ↓zbs, ↓zbm, ↓zdl, ↓zdf, ↓zby, ↓zec, ↓zed, ↓zee, ↓zef, ↓zdv, ↓zdt, ↓zem, ↓zek, ↓zel, ↓zej, ↓zcl, ↓zeb, ↓zck, ↓zcn, ↓zco, ↓zcm, ↓zbo, ↓zcp, ↓zbn, ↓zbq, ↓zbr, ↓zbp, ↓zal, ↓zak, ↓zai, ↓zba, ↓zaj, ↓zax, ↓zaw, ↓zau, ↓zbe, ↓zav, ↓zad, ↓zac, ↓zaa, ↓zay, ↓zab, ↓zap, ↓zao, ↓zam, ↓zbb, ↓zan, ↓zat, ↓zas, ↓zaq, ↓zbc, ↓zar, ↓zah, ↓zag, ↓zae, ↓zaz, ↓zaf, Bool.not_true, Bool.not_false, Bool.false_eq_true, zbf, zbd, ↓sl0, ↓sl1, ↓sl2, ↓sl3, ↓sl4, ↓sl5, ↓sl6, ↓sl7, ↓sl8, true_and, and_true, zbj, decide_true, decide_false, List.getElem?_cons_zero, List.getElem?_cons_succ, List.set_cons_zero, List.set_cons_succ, tt4_1, tt4_2, tt4_3]
  refine simplified_v hl ne fun R h2 cR mR lR k2 => ?_
  have eR : R = S := canon_uniq cR cS fun x => (mR x).trans (mS x).symm
  subst eR
  refine (v_is (within_bounds_e (by rw [List.length_map]; omega) _)).mpr ⟨rfl, k2⟩
theorem intervals_of_x {E : XP} {P : D → Hd → Prop} {es : List (Int × Int)} {p : Int × Int} {h : Hd} (hl : es.length ≤ 1000) (ne : ∀ p ∈ es, p.1 < p.2) (hp : p.2 ≤ p.1) (q : E ⟨0, []⟩ h) : vC (E := E) fF4 [.tup ((es ++ [p]).map ipD)] h P := by
  refine vC.monoE (P := P) (E' := E) ?_ (fun _ _ z => z) fun _ _ z => z
  refine runP_vE (σ := [some (.tup ((es ++ [p]).map ipD)), none, none]) (by rfl) (by rfl) ?_
  unfold bB4
  simp (maxSteps := 4000000) (disch := decide) only [↓zdg, ↓zbx, ↓FL.then_nx, ↓FL.then_rt, ↓FL.then_bk, ↓FL.then_ct, ↓zbu, ↓zbv, ↓zcz, ↓zew, ↓zdc, ↓zex, ↓zdd, ↓zbw, ↓zev, ↓zeu, ↓zet, ↓zcy, ↓zda, ↓zdb, ↓zde, ↓zey, ↓zes, ↓zbi, ↓zfx, ↓zfy, ↓zci, ↓zcj, ↓zfp, ↓zbh, ↓zfh, ↓zfn, ↓zga, ↓zfl, ↓zdp, ↓zdo, ↓zfm, ↓zff, ↓zfk, ↓zgc, ↓zfd, ↓zgd, ↓zfq, ↓or1, ↓and2, ↓or2, ↓zdr, ↓zfs, ↓zds, ↓zft, ↓zfg, ↓zeg, ↓zcr, ↓zfo, ↓zfj, ↓zgb, ↓zfr, ↓zer, ↓zbk, ↓zge, ↓zfz, ↓zfi, ↓zdm, ↓zfe, ↓zdn, ↓zca, ↓zcb, ↓zfa, ↓zfv, ↓zez, ↓zfw, ↓zfc, ↓zfu, ↓zfb, ↓zdj, ↓zcd, ↓zdk, ↓zbl, ↓zdy, ↓zcf, ↓zdz, ↓zcg, ↓zch, ↓zbz, ↓zcc, ↓zdi, ↓zei, ↓zeh, ↓zdx, ↓zdw, ↓zdu, ↓zdq, ↓zea, ↓zcs, ↓zct, ↓zen, ↓zbg, ↓zcv, ↓zcu, ↓zcx, ↓zce, ↓reduceIte, and_self, ↓zbt, ↓zcq, ↓zbs, ↓zbm, ↓zdl, ↓zdf, ↓zby, ↓zec, ↓zed, ↓zee, ↓zef, ↓zdv, ↓zdt, ↓zem, ↓zek, ↓zel, ↓zej, ↓zcl, ↓zeb, ↓zck, ↓zcn, ↓zco, ↓zcm, ↓zbo, ↓zcp, ↓zbn, ↓zbq, ↓zbr, ↓zbp, ↓zal, ↓zak, ↓zai, ↓zba, ↓zaj, ↓zax, ↓zaw, ↓zau, ↓zbe, ↓zav, ↓zad, ↓zac, ↓zaa, ↓zay, ↓zab, ↓zap, ↓zao, ↓zam, ↓zbb, ↓zan, ↓zat, ↓zas, ↓zaq, ↓zbc, ↓zar, ↓zah, ↓zag, ↓zae, ↓zaz, ↓zaf, Bool.not_true, Bool.not_false, Bool.false_eq_true, zbf, zbd, ↓sl0, ↓sl1, ↓sl2, ↓sl3, ↓sl4, ↓sl5, ↓sl6, ↓sl7, ↓sl8, true_and, and_true, zbj, decide_true, decide_false, List.getElem?_cons_zero, List.getElem?_cons_succ, List.set_cons_zero, List.set_cons_succ]
  refine for_sat (fun i τ h' => h' = h ∧ i ≤ es.length ∧ ∃ z1 z2, τ = [some (.tup ((es ++ [p]).map ipD)), z1, z2]) ⟨rfl, Nat.zero_le _, _, _, rfl⟩ (fun _ _ _ _ _ _ z => nomatch z) (fun i τ h' d hd ⟨eh, hi, z2, z3, eτ⟩ => ?_) fun τ h' ⟨eh, hi, z2, z3, eτ⟩ => ?_
  · subst eh eτ
    rw [List.getElem?_map] at hd
    by_cases hlt : i < es.length
    · rw [List.getElem?_append_left hlt, List.getElem?_eq_getElem hlt] at hd
      cases hd
      refine ⟨_, rfl, ?_⟩
      simp (maxSteps := 4000000) (disch := decide) only [↓zdg, ↓zbx, ↓FL.then_nx, ↓FL.then_rt, ↓FL.then_bk, ↓FL.then_ct, ↓zbu, ↓zbv, ↓zcz, ↓zew, ↓zdc, ↓zex, ↓zdd, ↓zbw, ↓zev, ↓zeu, ↓zet, ↓zcy, ↓zda, ↓zdb, ↓zde, ↓zey, ↓zes, ↓zbi, ↓zfx, ↓zfy, ↓zci, ↓zcj, ↓zfp, ↓zbh, ↓zfh, ↓zfn, ↓zga, ↓zfl, ↓zdp, ↓zdo, ↓zfm, ↓zff, ↓zfk, ↓zgc, ↓zfd, ↓zgd, ↓zfq, ↓or1, ↓and2, ↓or2, ↓zdr, ↓zfs, ↓zds, ↓zft, ↓zfg, ↓zeg, ↓zcr, ↓zfo, ↓zfj, ↓zgb, ↓zfr, ↓zer, ↓zbk, ↓zge, ↓zfz, ↓zfi, ↓zdm, ↓zfe, ↓zdn, ↓zca, ↓zcb, ↓zfa, ↓zfv, ↓zez, ↓zfw, ↓zfc, ↓zfu, ↓zfb, ↓zdj, ↓zcd, ↓zdk, ↓zbl, ↓zdy, ↓zcf, ↓zdz, ↓zcg, ↓zch, ↓zbz, ↓zcc, ↓zdi, ↓zei, ↓zeh, ↓zdx, ↓zdw, ↓zdu, ↓zdq, ↓zea, ↓zcs, ↓zct, ↓zen, ↓zbg, ↓zcv, ↓zcu, ↓zcx, ↓zce, ↓reduceIte, and_self, ↓zbt, ↓zcq, ↓zbs, ↓zbm, ↓zdl, ↓zdf, ↓zby, ↓zec, ↓zed, ↓zee, ↓zef, ↓zdv, ↓zdt, ↓zem, ↓zek, ↓zel, ↓zej, ↓zcl, ↓zeb, ↓zck, ↓zcn, ↓zco, ↓zcm, ↓zbo, ↓zcp, ↓zbn, ↓zbq, ↓zbr, ↓zbp, ↓zal, ↓zak, ↓zai, ↓zba, ↓zaj, ↓zax, ↓zaw, ↓zau, ↓zbe, ↓zav, ↓zad, ↓zac, ↓zaa, ↓zay, ↓zab, ↓zap, ↓zao, ↓zam, ↓zbb, ↓zan, ↓zat, ↓zas, ↓zaq, ↓zbc, ↓zar, ↓zah, ↓zag, ↓zae, ↓zaz, ↓zaf, Bool.not_true, Bool.not_false, Bool.false_eq_true, zbf, zbd, ↓sl0, ↓sl1, ↓sl2, ↓sl3, ↓sl4, ↓sl5, ↓sl6, ↓sl7, ↓sl8, true_and, and_true, zbj, decide_true, decide_false, List.getElem?_cons_zero, List.getElem?_cons_succ, List.set_cons_zero, List.set_cons_succ, ipD, tt4_1, tt4_2, tt4_3, ↓v_is (check_interval_e (ne es[i] (List.getElem_mem hlt)) h')]
      exact ⟨hlt, _, _, rfl⟩
    · have : i = es.length := by omega
      subst this
      simp at hd
      subst hd
      refine ⟨_, rfl, ?_⟩
      simp (maxSteps := 4000000) (disch := decide) only [↓zdg, ↓zbx, ↓FL.then_nx, ↓FL.then_rt, ↓FL.then_bk, ↓FL.then_ct, ↓zbu, ↓zbv, ↓zcz, ↓zew, ↓zdc, ↓zex, ↓zdd, ↓zbw, ↓zev, ↓zeu, ↓zet, ↓zcy, ↓zda, ↓zdb, ↓zde, ↓zey, ↓zes, ↓zbi, ↓zfx, ↓zfy, ↓zci, ↓zcj, ↓zfp, ↓zbh, ↓zfh, ↓zfn, ↓zga, ↓zfl, ↓zdp, ↓zdo, ↓zfm, ↓zff, ↓zfk, ↓zgc, ↓zfd, ↓zgd, ↓zfq, ↓or1, ↓and2, ↓or2, ↓zdr, ↓zfs, ↓zds, ↓zft, ↓zfg, ↓zeg, ↓zcr, ↓zfo, ↓zfj, ↓zgb, ↓zfr, ↓zer, ↓zbk, ↓zge, ↓zfz, ↓zfi, ↓zdm, ↓zfe, ↓zdn, ↓zca, ↓zcb, ↓zfa, ↓zfv, ↓zez, ↓zfw, ↓zfc, ↓zfu, ↓zfb, ↓zdj, ↓zcd, ↓zdk, ↓zbl, ↓zdy, ↓zcf, ↓zdz, ↓zcg, ↓zch, ↓zbz, ↓zcc, ↓zdi, ↓zei, ↓zeh, ↓zdx, ↓zdw, ↓zdu, ↓zdq, ↓zea, ↓zcs, ↓zct, ↓zen, ↓zbg, ↓zcv, ↓zcu, ↓zcx, ↓zce, ↓reduceIte, and_self, ↓zbt, ↓zcq, ↓zbs, ↓zbm, ↓zdl, ↓zdf, ↓zby, ↓zec, ↓zed, ↓zee, ↓zef, ↓zdv, ↓zdt, ↓zem, ↓zek, ↓zel, ↓zej, ↓zcl, ↓zeb, ↓zck, ↓zcn, ↓zco, ↓zcm, ↓zbo, ↓zcp, ↓zbn, ↓zbq, ↓zbr, ↓zbp, ↓zal, ↓zak, ↓zai, ↓zba, ↓zaj, ↓zax, ↓zaw, ↓zau, ↓zbe, ↓zav, ↓zad, ↓zac, ↓zaa, ↓zay, ↓zab, ↓zap, ↓zao, ↓zam, ↓zbb, ↓zan, ↓zat, ↓zas, ↓zaq, ↓zbc, ↓zar, ↓zah, ↓zag, ↓zae, ↓zaz, ↓zaf, Bool.not_true, Bool.not_false, Bool.false_eq_true, zbf, zbd, ↓sl0, ↓sl1, ↓sl2, ↓sl3, ↓sl4, ↓sl5, ↓sl6, ↓sl7, ↓sl8, true_and, and_true, zbj, decide_true, decide_false, List.getElem?_cons_zero, List.getElem?_cons_succ, List.set_cons_zero, List.set_cons_succ, ipD, tt4_1, tt4_2, tt4_3]
      exact check_interval_x hp q
  · exfalso
    have e1 : ((es ++ [p]).map ipD).length = es.length + 1 := by simp
    have hi : ((es ++ [p]).map ipD).length ≤ es.length := hi
    omega
theorem contents_seq {E : XP} {P : D → Hd → Prop} {d : D} {h : Hd} (q : P d h) : vC (E := E) fF9 [kS .seq, d] h P := by
  refine vC.mono (P := fun d' h' => d' = d ∧ h' = h) ?_ fun d' h' ⟨e, k⟩ => e ▸ k ▸ q
  refine runP_v (σ := [some (kS .seq), some (d)]) (by rfl) (by rfl) ?_
  unfold bB9
  simp (maxSteps := 4000000) (disch := decide) only [↓zdg, ↓zbx, ↓FL.then_nx, ↓FL.then_rt, ↓FL.then_bk, ↓FL.then_ct, ↓zbu, ↓zbv, ↓zcz, ↓zew, ↓zdc, ↓zex, ↓zdd, ↓zbw, ↓zev, ↓zeu, ↓zet, ↓zcy, ↓zda, ↓zdb, ↓zde, ↓zey, ↓zes, ↓zbi, ↓zfx, ↓zfy, ↓zci, ↓zcj, ↓zfp, ↓zbh, ↓zfh, ↓zfn, ↓zga, ↓zfl, ↓zdp, ↓zdo, ↓zfm, ↓zff, ↓zfk, ↓zgc, ↓zfd, ↓zgd, ↓zfq, ↓or1, ↓and2, ↓or2, ↓zdr, ↓zfs, ↓zds, ↓zft, ↓zfg, ↓zeg, ↓zcr, ↓zfo, ↓zfj, ↓zgb, ↓zfr, ↓zer, ↓zbk, ↓zge, ↓zfz, ↓zfi, ↓zdm, ↓zfe, ↓zdn, ↓zca, ↓zcb, ↓zfa, ↓zfv, ↓zez, ↓zfw, ↓zfc, ↓zfu, ↓zfb, ↓zdj, ↓zcd, ↓zdk, ↓zbl, ↓zdy, ↓zcf, ↓zdz, ↓zcg, ↓zch, ↓zbz, ↓zcc, ↓zdi, ↓zei, ↓zeh, ↓zdx, ↓zdw, ↓zdu, ↓zdq, ↓zea, ↓zcs, ↓zct, ↓zen, ↓zbg, ↓zcv, ↓zcu, ↓zcx, ↓zce, ↓reduceIte, and_self, ↓zbt, ↓zcq, ↓zbs, ↓zbm, ↓zdl, ↓zdf, ↓zby, ↓zec, ↓zed, ↓zee, ↓zef, ↓zdv, ↓zdt, ↓zem, ↓zek, ↓zel, ↓zej, ↓zcl, ↓zeb, ↓zck, ↓zcn, ↓zco, ↓zcm, ↓zbo, ↓zcp, ↓zbn, ↓zbq, ↓zbr, ↓zbp, ↓zal, ↓zak, ↓zai, ↓zba, ↓zaj, ↓zax, ↓zaw, ↓zau, ↓zbe, ↓zav, ↓zad, ↓zac, ↓zaa, ↓zay, ↓zab, ↓zap, ↓zao, ↓zam, ↓zbb, ↓zan, ↓zat, ↓zas, ↓zaq, ↓zbc, ↓zar, ↓zah, ↓zag, ↓zae, ↓zaz, ↓zaf, Bool.not_true, Bool.not_false, Bool.false_eq_true, zbf, zbd, ↓sl0, ↓sl1, ↓sl2, ↓sl3, ↓sl4, ↓sl5, ↓sl6, ↓sl7, ↓sl8, true_and, and_true, zbj, decide_true, decide_false, List.getElem?_cons_zero, List.getElem?_cons_succ, List.set_cons_zero, List.set_cons_succ, kS, k1, k2, k3]
theorem contents_map {E : XP} {P : D → Hd → Prop} {es : List (Key × Key)} {h : Hd} (hl : es.length ≤ 1000) (q : ∀ h', Kp h h' → P (.tup ((srtK (tabOf es)).map prD)) h') : vC (E := E) fF9 [kS .map, .tup (es.map prD)] h P := by
  refine vC.mono (P := fun d' h' => d' = .tup ((srtK (tabOf es)).map prD) ∧ Kp h h') ?_ fun d' h' ⟨e, k⟩ => e ▸ q h' k
  refine runP_v (σ := [some (kS .map), some (.tup (es.map prD))]) (by rfl) (by rfl) ?_
  unfold bB9
  simp (maxSteps := 4000000) (disch := decide) only [↓zdg, ↓zbx, ↓FL.then_nx, ↓FL.then_rt, ↓FL.then_bk, ↓FL.then_ct, ↓zbu, ↓zbv, ↓zcz, ↓zew, ↓zdc, ↓zex, ↓zdd, ↓zbw, ↓zev, ↓zeu, ↓zet, ↓zcy, ↓zda, ↓zdb, ↓zde, ↓zey, ↓zes, ↓zbi, ↓zfx, ↓zfy, ↓zci, ↓zcj, ↓zfp, ↓zbh, ↓zfh, ↓zfn, ↓zga, ↓zfl, ↓zdp, ↓zdo, ↓zfm, ↓zff, ↓zfk, ↓zgc, ↓zfd, ↓zgd, ↓zfq, ↓or1, ↓and2, ↓or2, ↓zdr, ↓zfs, ↓zds, ↓zft, ↓zfg, ↓zeg, ↓zcr, ↓zfo, ↓zfj, ↓zgb, ↓zfr, ↓zer, ↓zbk, ↓zge, ↓zfz, ↓zfi, ↓zdm, ↓zfe, ↓zdn, ↓zca, ↓zcb, ↓zfa, ↓zfv, ↓zez, ↓zfw, ↓zfc, ↓zfu, ↓zfb, ↓zdj, ↓zcd, ↓zdk, ↓zbl, ↓zdy, ↓zcf, ↓zdz, ↓zcg, ↓zch, ↓zbz, ↓zcc, ↓zdi, ↓zei, ↓zeh, ↓zdx, ↓zdw, ↓zdu, ↓zdq, ↓zea, ↓zcs, ↓zct, ↓zen, ↓zbg, ↓zcv, ↓zcu, ↓zcx, ↓zce, ↓reduceIte, and_self, ↓zbt, ↓zcq, ↓zbs, ↓zbm, ↓zdl, ↓zdf, ↓zby, ↓zec, ↓zed, ↓zee, ↓zef, ↓zdv, ↓zdt, ↓zem, ↓zek, ↓zel, ↓zej, ↓zcl, ↓zeb, ↓zck, ↓zcn, ↓zco, ↓zcm, ↓zbo, ↓zcp, ↓zbn, ↓zbq, ↓zbr, ↓zbp, ↓zal, ↓zak, ↓zai, ↓zba, ↓zaj, ↓zax, ↓zaw, ↓zau, ↓zbe, ↓zav, ↓zad, ↓zac, ↓zaa, ↓zay, ↓zab, ↓zap, ↓zao, ↓zam, ↓zbb, ↓zan, ↓zat, ↓zas, ↓zaq, ↓zbc, ↓zar, ↓zah, ↓zag, ↓zae, ↓zaz, ↓zaf, Bool.not_true, Bool.not_false, Bool.false_eq_true, zbf, zbd, ↓sl0, ↓sl1, ↓sl2, ↓sl3, ↓sl4, ↓sl5, ↓sl6, ↓sl7, ↓sl8, true_and, and_true, zbj, decide_true, decide_false, List.getElem?_cons_zero, List.getElem?_cons_succ, List.set_cons_zero, List.set_cons_succ, kS, tt9_4, tt9_8, tt9_7]
  exact map_of_v hl fun h' k => ⟨rfl, k⟩
theorem contents_que {E : XP} {P : D → Hd → Prop} {es : List (Int × Key)} {h : Hd} (hl : es.length ≤ 1000) (q : ∀ h', Kp h h' → P (.tup ((srtQ es).map qiD)) h') : vC (E := E) fF9 [kS .que, .tup (es.map qiD)] h P := by
  refine vC.mono (P := fun d' h' => d' = .tup ((srtQ es).map qiD) ∧ Kp h h') ?_ fun d' h' ⟨e, k⟩ => e ▸ q h' k
  refine runP_v (σ := [some (kS .que), some (.tup (es.map qiD))]) (by rfl) (by rfl) ?_
  unfold bB9
  simp (maxSteps := 4000000) (disch := decide) only [↓zdg, ↓zbx, ↓FL.then_nx, ↓FL.then_rt, ↓FL.then_bk, ↓FL.then_ct, ↓zbu, ↓zbv, ↓zcz, ↓zew, ↓zdc, ↓zex, ↓zdd, ↓zbw, ↓zev, ↓zeu, ↓zet, ↓zcy, ↓zda, ↓zdb, ↓zde, ↓zey, ↓zes, ↓zbi, ↓zfx, ↓zfy, ↓zci, ↓zcj, ↓zfp, ↓zbh, ↓zfh, ↓zfn, ↓zga, ↓zfl, ↓zdp, ↓zdo, ↓zfm, ↓zff, ↓zfk, ↓zgc, ↓zfd, ↓zgd, ↓zfq, ↓or1, ↓and2, ↓or2, ↓zdr, ↓zfs, ↓zds, ↓zft, ↓zfg, ↓zeg, ↓zcr, ↓zfo, ↓zfj, ↓zgb, ↓zfr, ↓zer, ↓zbk, ↓zge, ↓zfz, ↓zfi, ↓zdm, ↓zfe, ↓zdn, ↓zca, ↓zcb, ↓zfa, ↓zfv, ↓zez, ↓zfw, ↓zfc, ↓zfu, ↓zfb, ↓zdj, ↓zcd, ↓zdk, ↓zbl, ↓zdy, ↓zcf, ↓zdz, ↓zcg, ↓zch, ↓zbz, ↓zcc, ↓zdi, ↓zei, ↓zeh, ↓zdx, ↓zdw, ↓zdu, ↓zdq, ↓zea, ↓zcs, ↓zct, ↓zen, ↓zbg, ↓zcv, ↓zcu, ↓zcx, ↓zce, ↓reduceIte, and_self, ↓zbt, ↓zcq, ↓zbs, ↓zbm, ↓zdl, ↓zdf, ↓zby, ↓zec, ↓zed, ↓zee, ↓zef, ↓zdv, ↓zdt, ↓zem, ↓zek, ↓zel, ↓zej, ↓zcl, ↓zeb, ↓zck, ↓zcn, ↓zco, ↓zcm, ↓zbo, ↓zcp, ↓zbn, ↓zbq, ↓zbr, ↓zbp, ↓zal, ↓zak, ↓zai, ↓zba, ↓zaj, ↓zax, ↓zaw, ↓zau, ↓zbe, ↓zav, ↓zad, ↓zac, ↓zaa, ↓zay, ↓zab, ↓zap, ↓zao, ↓zam, ↓zbb, ↓zan, ↓zat, ↓zas, ↓zaq, ↓zbc, ↓zar, ↓zah, ↓zag, ↓zae, ↓zaz, ↓zaf, Bool.not_true, Bool.not_false, Bool.false_eq_true, zbf, zbd, ↓sl0, ↓sl1, ↓sl2, ↓sl3, ↓sl4, ↓sl5, ↓sl6, ↓sl7, ↓sl8, true_and, and_true, zbj, decide_true, decide_false, List.getElem?_cons_zero, List.getElem?_cons_succ, List.set_cons_zero, List.set_cons_succ, kS, k8, tt9_4, tt9_8, tt9_7]
  exact queue_of_v hl fun h' k => ⟨rfl, k⟩
theorem contents_ivl {E : XP} {P : D → Hd → Prop} {es S : List (Int × Int)} {h : Hd} (hl : es.length ≤ 1000) (ne : ∀ p ∈ es, p.1 < p.2) (cS : CanonI S) (mS : ∀ x, memI S x ↔ memI es x) (q : ∀ h', Kp h h' → P (.tup (S.map ipD)) h') : vC (E := E) fF9 [kS .ivl, .tup (es.map ipD)] h P := by
  refine vC.mono (P := fun d' h' => d' = .tup (S.map ipD) ∧ Kp h h') ?_ fun d' h' ⟨e, k⟩ => e ▸ q h' k
  refine runP_v (σ := [some (kS .ivl), some (.tup (es.map ipD))]) (by rfl) (by rfl) ?_
  unfold bB9
  simp (maxSteps := 4000000) (disch := decide) only [↓zdg, ↓zbx, ↓FL.then_nx, ↓FL.then_rt, ↓FL.then_bk, ↓FL.then_ct, ↓zbu, ↓zbv, ↓zcz, ↓zew, ↓zdc, ↓zex, ↓zdd, ↓zbw, ↓zev, ↓zeu, ↓zet, ↓zcy, ↓zda, ↓zdb, ↓zde, ↓zey, ↓zes, ↓zbi, ↓zfx, ↓zfy, ↓zci, ↓zcj, ↓zfp, ↓zbh, ↓zfh, ↓zfn, ↓zga, ↓zfl, ↓zdp, ↓zdo, ↓zfm, ↓zff, ↓zfk, ↓zgc, ↓zfd, ↓zgd, ↓zfq, ↓or1, ↓and2, ↓or2, ↓zdr, ↓zfs, ↓zds, ↓zft, ↓zfg, ↓zeg, ↓zcr, ↓zfo, ↓zfj, ↓zgb, ↓zfr, ↓zer, ↓zbk, ↓zge, ↓zfz, ↓zfi, ↓zdm, ↓zfe, ↓zdn, ↓zca, ↓zcb, ↓zfa, ↓zfv, ↓zez, ↓zfw, ↓zfc, ↓zfu, ↓zfb, ↓zdj, ↓zcd, ↓zdk, ↓zbl, ↓zdy, ↓zcf, ↓zdz, ↓zcg, ↓zch, ↓zbz, ↓zcc, ↓zdi, ↓zei, ↓zeh, ↓zdx, ↓zdw, ↓zdu, ↓zdq, ↓zea, ↓zcs, ↓zct, ↓zen, ↓zbg, ↓zcv, ↓zcu, ↓zcx, ↓zce, ↓reduceIte, and_self, ↓zbt, ↓zcq, ↓zbs, ↓zbm, ↓zdl, ↓zdf, ↓zby, ↓zec, ↓zed, ↓zee, ↓zef, ↓zdv, ↓zdt, ↓zem, ↓zek, ↓zel, ↓zej, ↓zcl, ↓zeb, ↓zck, ↓zcn, ↓zco, ↓zcm, ↓zbo, ↓zcp, ↓zbn, ↓zbq, ↓zbr, ↓zbp, ↓zal, ↓zak, ↓zai, ↓zba, ↓zaj, ↓zax, ↓zaw, ↓zau, ↓zbe, ↓zav, ↓zad, ↓zac, ↓zaa, ↓zay, ↓zab, ↓zap, ↓zao, ↓zam, ↓zbb, ↓zan, ↓zat, ↓zas, ↓zaq, ↓zbc, ↓zar, ↓zah, ↓zag, ↓zae, ↓zaz, ↓zaf, Bool.not_true, Bool.not_false, Bool.false_eq_true, zbf, zbd, ↓sl0, ↓sl1, ↓sl2, ↓sl3, ↓sl4, ↓sl5, ↓sl6, ↓sl7, ↓sl8, true_and, and_true, zbj, decide_true, decide_false, List.getElem?_cons_zero, List.getElem?_cons_succ, List.set_cons_zero, List.set_cons_succ, kS, k11, k12, tt9_4, tt9_8, tt9_7]
  exact intervals_of_v hl ne cS mS fun h' k => ⟨rfl, k⟩
theorem contents_ivl_x {E : XP} {P : D → Hd → Prop} {es : List (Int × Int)} {p : Int × Int} {h : Hd} (hl : es.length ≤ 1000) (ne : ∀ p ∈ es, p.1 < p.2) (hp : p.2 ≤ p.1) (q : E ⟨0, []⟩ h) : vC (E := E) fF9 [kS .ivl, .tup ((es ++ [p]).map ipD)] h P := by
  refine vC.monoE (P := P) (E' := E) ?_ (fun _ _ z => z) fun _ _ z => z
  refine runP_vE (σ := [some (kS .ivl), some (.tup ((es ++ [p]).map ipD))]) (by rfl) (by rfl) ?_
  unfold bB9
  simp (maxSteps := 4000000) (disch := decide) only [↓zdg, ↓zbx, ↓FL.then_nx, ↓FL.then_rt, ↓FL.then_bk, ↓FL.then_ct, ↓zbu, ↓zbv, ↓zcz, ↓zew, ↓zdc, ↓zex, ↓zdd, ↓zbw, ↓zev, ↓zeu, ↓zet, ↓zcy, ↓zda, ↓zdb, ↓zde, ↓zey, ↓zes, ↓zbi, ↓zfx, ↓zfy, ↓zci, ↓zcj, ↓zfp, ↓zbh, ↓zfh, ↓zfn, ↓zga, ↓zfl, ↓zdp, ↓zdo, ↓zfm, ↓zff, ↓zfk, ↓zgc, ↓zfd, ↓zgd, ↓zfq, ↓or1, ↓and2, ↓or2, ↓zdr, ↓zfs, ↓zds, ↓zft, ↓zfg, ↓zeg, ↓zcr, ↓zfo, ↓zfj, ↓zgb, ↓zfr, ↓zer, ↓zbk, ↓zge, ↓zfz, ↓zfi, ↓zdm, ↓zfe, ↓zdn, ↓zca, ↓zcb, ↓zfa, ↓zfv, ↓zez, ↓zfw, ↓zfc, ↓zfu, ↓zfb, ↓zdj, ↓zcd, ↓zdk, ↓zbl, ↓zdy, ↓zcf, ↓zdz, ↓zcg, ↓zch, ↓zbz, ↓zcc, ↓zdi, ↓zei, ↓zeh, ↓zdx, ↓zdw, ↓zdu, ↓zdq, ↓zea, ↓zcs, ↓zct, ↓zen, ↓zbg, ↓zcv, ↓zcu, ↓zcx, ↓zce, ↓reduceIte, and_self, ↓zbt, ↓zcq, ↓zbs, ↓zbm, ↓zdl, ↓zdf, ↓zby, ↓zec, ↓zed, ↓zee, ↓zef, ↓zdv, ↓zdt, ↓zem, ↓zek, ↓zel, ↓zej, ↓zcl, ↓zeb, ↓zck, ↓zcn, ↓zco, ↓zcm, ↓zbo, ↓zcp, ↓zbn, ↓zbq, ↓zbr, ↓zbp, ↓zal, ↓zak, ↓zai, ↓zba, ↓zaj, ↓zax, ↓zaw, ↓zau, ↓zbe, ↓zav, ↓zad, ↓zac, ↓zaa, ↓zay, ↓zab, ↓zap, ↓zao, ↓zam, ↓zbb, ↓zan, ↓zat, ↓zas, ↓zaq, ↓zbc, ↓zar, ↓zah, ↓zag, ↓zae, ↓zaz, ↓zaf, Bool.not_true, Bool.not_false, Bool.false_eq_true, zbf, zbd, ↓sl0, ↓sl1, ↓sl2, ↓sl3, ↓sl4, ↓sl5, ↓sl6, ↓sl7, ↓sl8, true_and, and_true, zbj, decide_true, decide_false, List.getElem?_cons_zero, List.getElem?_cons_succ, List.set_cons_zero, List.set_cons_succ, kS, k11, k12, tt9_4, tt9_8, tt9_7]
  exact intervals_of_x hl ne hp q
theorem told_v {E : XP} {P : D → Hd → Prop} {k r v : D} {h : Hd} (H : ∀ {E : XP} {P : D → Hd → Prop}, (∀ h', Kp h h' → P v h') → vC (E := E) fF9 [k, r] h P) (q : ∀ h', Kp h h' → P (.tup [.str "told", v]) h') : vC (E := E) fF31 [k, r] h P := by
  refine vC.mono (P := fun d' h' => d' = .tup [.str "told", v] ∧ Kp h h') ?_ fun d' h' ⟨e, k⟩ => e ▸ q h' k
  refine runP_v (σ := [some (k), some (r), none]) (by rfl) (by rfl) ?_
  unfold bB31
  simp (maxSteps := 4000000) (disch := decide) only [↓zdg, ↓zbx, ↓FL.then_nx, ↓FL.then_rt, ↓FL.then_bk, ↓FL.then_ct, ↓zbu, ↓zbv, ↓zcz, ↓zew, ↓zdc, ↓zex, ↓zdd, ↓zbw, ↓zev, ↓zeu, ↓zet, ↓zcy, ↓zda, ↓zdb, ↓zde, ↓zey, ↓zes, ↓zbi, ↓zfx, ↓zfy, ↓zci, ↓zcj, ↓zfp, ↓zbh, ↓zfh, ↓zfn, ↓zga, ↓zfl, ↓zdp, ↓zdo, ↓zfm, ↓zff, ↓zfk, ↓zgc, ↓zfd, ↓zgd, ↓zfq, ↓or1, ↓and2, ↓or2, ↓zdr, ↓zfs, ↓zds, ↓zft, ↓zfg, ↓zeg, ↓zcr, ↓zfo, ↓zfj, ↓zgb, ↓zfr, ↓zer, ↓zbk, ↓zge, ↓zfz, ↓zfi, ↓zdm, ↓zfe, ↓zdn, ↓zca, ↓zcb, ↓zfa, ↓zfv, ↓zez, ↓zfw, ↓zfc, ↓zfu, ↓zfb, ↓zdj, ↓zcd, ↓zdk, ↓zbl, ↓zdy, ↓zcf, ↓zdz, ↓zcg, ↓zch, ↓zbz, ↓zcc, ↓zdi, ↓zei, ↓zeh, ↓zdx, ↓zdw, ↓zdu, ↓zdq, ↓zea, ↓zcs, ↓zct, ↓zen, ↓zbg, ↓zcv, ↓zcu, ↓zcx, ↓zce, ↓reduceIte, and_self, ↓zbt, ↓zcq, ↓zbs, ↓zbm, ↓zdl, ↓zdf, ↓zby, ↓zec, ↓zed, ↓zee, ↓zef, ↓zdv, ↓zdt, ↓zem, ↓zek, ↓zel, ↓zej, ↓zcl, ↓zeb, ↓zck, ↓zcn, ↓zco, ↓zcm, ↓zbo, ↓zcp, ↓zbn, ↓zbq, ↓zbr, ↓zbp, ↓zal, ↓zak, ↓zai, ↓zba, ↓zaj, ↓zax, ↓zaw, ↓zau, ↓zbe, ↓zav, ↓zad, ↓zac, ↓zaa, ↓zay, ↓zab, ↓zap, ↓zao, ↓zam, ↓zbb, ↓zan, ↓zat, ↓zas, ↓zaq, ↓zbc, ↓zar, ↓zah, ↓zag, ↓zae, ↓zaz, ↓zaf, Bool.not_true, Bool.not_false, Bool.false_eq_true, zbf, zbd, ↓sl0, ↓sl1, ↓sl2, ↓sl3, ↓sl4, ↓sl5, ↓sl6, ↓sl7, ↓sl8, true_and, and_true, zbj, decide_true, decide_false, List.getElem?_cons_zero, List.getElem?_cons_succ, List.set_cons_zero, List.set_cons_succ, tt31_9]
  exact H fun h' k => ⟨rfl, k⟩
theorem empty_v {E : XP} {P : D → Hd → Prop} {k r : D} {h : Hd} (H : ∀ {E : XP} {P : D → Hd → Prop}, E ⟨0, []⟩ h → vC (E := E) fF9 [k, r] h P) (q : P (.tup [.str "empty", .bl true]) h) : vC (E := E) fF31 [k, r] h P := by
  refine vC.mono (P := fun d' h' => d' = .tup [.str "empty", .bl true] ∧ h' = h) ?_ fun d' h' ⟨e, k⟩ => e ▸ k ▸ q
  refine runP_v (σ := [some (k), some (r), none]) (by rfl) (by rfl) ?_
  unfold bB31
  simp (maxSteps := 4000000) (disch := decide) only [↓zdg, ↓zbx, ↓FL.then_nx, ↓FL.then_rt, ↓FL.then_bk, ↓FL.then_ct, ↓zbu, ↓zbv, ↓zcz, ↓zew, ↓zdc, ↓zex, ↓zdd, ↓zbw, ↓zev, ↓zeu, ↓zet, ↓zcy, ↓zda, ↓zdb, ↓zde, ↓zey, ↓zes, ↓zbi, ↓zfx, ↓zfy, ↓zci, ↓zcj, ↓zfp, ↓zbh, ↓zfh, ↓zfn, ↓zga, ↓zfl, ↓zdp, ↓zdo, ↓zfm, ↓zff, ↓zfk, ↓zgc, ↓zfd, ↓zgd, ↓zfq, ↓or1, ↓and2, ↓or2, ↓zdr, ↓zfs, ↓zds, ↓zft, ↓zfg, ↓zeg, ↓zcr, ↓zfo, ↓zfj, ↓zgb, ↓zfr, ↓zer, ↓zbk, ↓zge, ↓zfz, ↓zfi, ↓zdm, ↓zfe, ↓zdn, ↓zca, ↓zcb, ↓zfa, ↓zfv, ↓zez, ↓zfw, ↓zfc, ↓zfu, ↓zfb, ↓zdj, ↓zcd, ↓zdk, ↓zbl, ↓zdy, ↓zcf, ↓zdz, ↓zcg, ↓zch, ↓zbz, ↓zcc, ↓zdi, ↓zei, ↓zeh, ↓zdx, ↓zdw, ↓zdu, ↓zdq, ↓zea, ↓zcs, ↓zct, ↓zen, ↓zbg, ↓zcv, ↓zcu, ↓zcx, ↓zce, ↓reduceIte, and_self, ↓zbt, ↓zcq, ↓zbs, ↓zbm, ↓zdl, ↓zdf, ↓zby, ↓zec, ↓zed, ↓zee, ↓zef, ↓zdv, ↓zdt, ↓zem, ↓zek, ↓zel, ↓zej, ↓zcl, ↓zeb, ↓zck, ↓zcn, ↓zco, ↓zcm, ↓zbo, ↓zcp, ↓zbn, ↓zbq, ↓zbr, ↓zbp, ↓zal, ↓zak, ↓zai, ↓zba, ↓zaj, ↓zax, ↓zaw, ↓zau, ↓zbe, ↓zav, ↓zad, ↓zac, ↓zaa, ↓zay, ↓zab, ↓zap, ↓zao, ↓zam, ↓zbb, ↓zan, ↓zat, ↓zas, ↓zaq, ↓zbc, ↓zar, ↓zah, ↓zag, ↓zae, ↓zaz, ↓zaf, Bool.not_true, Bool.not_false, Bool.false_eq_true, zbf, zbd, ↓sl0, ↓sl1, ↓sl2, ↓sl3, ↓sl4, ↓sl5, ↓sl6, ↓sl7, ↓sl8, true_and, and_true, zbj, decide_true, decide_false, List.getElem?_cons_zero, List.getElem?_cons_succ, List.set_cons_zero, List.set_cons_succ, tt31_9]
  exact H ((hd_ret rfl rfl).mpr ⟨rfl, rfl⟩)
end DL

set_option Elab.async false
set_option linter.all false
set_option maxRecDepth 100000
set_option maxHeartbeats 8000000
namespace DL
open PySem PySem.Spec PyProof.Rows L2
def IsTe (d : D) : Prop := ∃ e : TEl, d = teD e
theorem isTe_all {l : List D} (h : ∀ x ∈ l, IsTe x) : ∃ es : List TEl, l = es.map teD ∧ es.length = l.length := by
  induction l with
  | nil => exact ⟨[], rfl, rfl⟩
  | cons a l ih =>
    obtain ⟨e, he⟩ := h a List.mem_cons_self
    obtain ⟨es, h1, h2⟩ := ih fun x hx => h x (List.mem_cons_of_mem _ hx)
    exact ⟨e :: es, by rw [he, h1]; rfl, by simp [h2]⟩
theorem isTe_mem {es : List TEl} {x : D} (h : x ∈ es.map teD) : IsTe x := by
  obtain ⟨e, _, rfl⟩ := List.mem_map.mp h
  exact ⟨e, rfl⟩
theorem El.te {d : D} (h : El d) : IsTe d := by
  cases h with
  | sc h => obtain ⟨k, rfl⟩ := h.key; exact ⟨.sc k, rfl⟩
  | pair h1 h2 =>
    obtain ⟨a, rfl⟩ := h1.key
    obtain ⟨b, rfl⟩ := h2.key
    exact ⟨.pr a b, rfl⟩
theorem ix_litT {ds : List D} {v : Int} {h : Hd} {P : D → Hd → Prop} (v0 : 0 ≤ v) (v1 : v < ds.length) (q : ∀ d ∈ ds, P d h) : vO (semIx2 (.tup ds) (.int v) h) P := by
  obtain ⟨j, rfl⟩ := Int.eq_ofNat_of_zero_le v0
  have hj : j < ds.length := by omega
  exact (ix_tup (atI_nat (List.getElem?_eq_getElem hj))).mpr (q _ (List.getElem_mem hj))
def spoF (t : Nat) (es : List TEl) (h : Hd) : D → Hd → Prop := fun d h' => ∃ es' : List TEl, d = .tup (es'.map teD) ∧ es'.length ≤ 500000 ∧ Tape t h' ∧ Fr t h h'
theorem cat_te {xs ys : List D} (h1 : ∀ x ∈ xs, IsTe x) (h2 : ∀ x ∈ ys, IsTe x) : ∀ x ∈ xs ++ ys, IsTe x := fun x hx => (List.mem_append.mp hx).elim (h1 x) (h2 x)
theorem spoF_of {t : Nat} {es : List TEl} {h h' : Hd} {l : List D} (ht : ∀ x ∈ l, IsTe x) (hl : l.length ≤ 500000) (T : Tape t h') (f : Fr t h h') : spoF t es h (.tup l) h' := by
  obtain ⟨es', e1, e2⟩ := isTe_all ht
  exact ⟨es', by rw [e1], by omega, T, f⟩
theorem spoilt_v {E : XP} {P : D → Hd → Prop} {t : Nat} {es : List TEl} {h : Hd} (T : Tape t h) (hl : es.length ≤ 60000) (q : ∀ (es' : List TEl) h', es'.length ≤ 500000 → Tape t h' → Fr t h h' → P (.tup (es'.map teD)) h') : vC (E := E) fF30 [.ref t, .tup (es.map teD)] h P := by
  refine vC.mono (P := spoF t es h) ?_ fun d h' ⟨es', e, r1, r2, r3⟩ => e ▸ q es' h' r1 r2 r3
  refine runP_v (σ := [some (.ref t), some (.tup (es.map teD)), none, none, none, none, none, none]) (by rfl) (by rfl) ?_
  unfold bB30
  try simp (maxSteps := 4000000) (disch := decide) only [↓zdg, ↓zbx, ↓FL.then_nx, ↓FL.then_rt, ↓FL.then_bk, ↓FL.then_ct, ↓zbu, ↓zbv, ↓zcz, ↓zew, ↓zdc, ↓zex, ↓zdd, ↓zbw, ↓zev, ↓zeu, ↓zet, ↓zcy, ↓zda, ↓zdb, ↓zde, ↓zey, ↓zes, ↓zbi, ↓zfx, ↓zfy, ↓zci, ↓zcj, ↓zfp, ↓zbh, ↓zfh, ↓zfn, ↓zga, ↓zfl, ↓zdp, ↓zdo, ↓zfm, ↓zff, ↓zfk, ↓zgc, ↓zfd, ↓zgd, ↓zfq, ↓or1, ↓and2, ↓or2, ↓zdr, ↓zfs, ↓zds, ↓zft, ↓zfg, ↓zeg, ↓zcr, ↓zfo, ↓zfj, ↓zgb, ↓zfr, ↓zer, ↓zbk, ↓zge, ↓zfz, ↓zfi, ↓zdm, ↓zfe, ↓zdn, ↓zca, ↓zcb, ↓zfa, ↓zfv, ↓zez, ↓zfw, ↓zfc, ↓zfu, ↓zfb, ↓zdj, ↓zcd, ↓zdk, ↓zbl, ↓zdy, ↓zcf, ↓zdz, ↓zcg, ↓zch, ↓zbz, ↓zcc, ↓zdi, ↓zei, ↓zeh, ↓zdx, ↓zdw, ↓zdu, ↓zdq, ↓zea, ↓zcs, ↓zct, ↓zen, ↓zbg, ↓zcv, ↓zcu, ↓zcx, ↓zce, ↓reduceIte, and_self, ↓zbt, ↓zcq, ↓zbs, ↓zbm, ↓zdl, ↓zdf, ↓zby, ↓zec, ↓zed, ↓zee, ↓zef, ↓zdv, ↓zdt, ↓zem, ↓zek, ↓zel, ↓zej, ↓zcl, ↓zeb, ↓zck, ↓zcn, ↓zco, ↓zcm, ↓zbo, ↓zcp, ↓zbn, ↓zbq, ↓zbr, ↓zbp, ↓zal, ↓zak, ↓zai, ↓zba, ↓zaj, ↓zax, ↓zaw, ↓zau, ↓zbe, ↓zav, ↓zad, ↓zac, ↓zaa, ↓zay, ↓zab, ↓zap, ↓zao, ↓zam, ↓zbb, ↓zan, ↓zat, ↓zas, ↓zaq, ↓zbc, ↓zar, ↓zah, ↓zag, ↓zae, ↓zaz, ↓zaf, Bool.not_true, Bool.not_false, Bool.false_eq_true, zbf, zbd, ↓sl0, ↓sl1, ↓sl2, ↓sl3, ↓sl4, ↓sl5, ↓sl6, ↓sl7, ↓sl8, true_and, and_true, zbj, decide_true, decide_false, List.getElem?_cons_zero, List.getElem?_cons_succ, List.set_cons_zero, List.set_cons_succ, tt30_14]
  split
  · exact ⟨es, rfl, by omega, T, .refl⟩
  rename_i hn
  have hpos : 0 < es.length := by
    cases es with
    | nil => exact absurd (by simp) hn
    | cons a b => simp
  have ll : (es.map teD).length = es.length := List.length_map ..
  rw [ll]
  refine draw_v T (by omega) (by omega) fun v h1 v0 v1 T1 f1 => ?_
  try simp (maxSteps := 4000000) (disch := decide) only [↓zdg, ↓zbx, ↓FL.then_nx, ↓FL.then_rt, ↓FL.then_bk, ↓FL.then_ct, ↓zbu, ↓zbv, ↓zcz, ↓zew, ↓zdc, ↓zex, ↓zdd, ↓zbw, ↓zev, ↓zeu, ↓zet, ↓zcy, ↓zda, ↓zdb, ↓zde, ↓zey, ↓zes, ↓zbi, ↓zfx, ↓zfy, ↓zci, ↓zcj, ↓zfp, ↓zbh, ↓zfh, ↓zfn, ↓zga, ↓zfl, ↓zdp, ↓zdo, ↓zfm, ↓zff, ↓zfk, ↓zgc, ↓zfd, ↓zgd, ↓zfq, ↓or1, ↓and2, ↓or2, ↓zdr, ↓zfs, ↓zds, ↓zft, ↓zfg, ↓zeg, ↓zcr, ↓zfo, ↓zfj, ↓zgb, ↓zfr, ↓zer, ↓zbk, ↓zge, ↓zfz, ↓zfi, ↓zdm, ↓zfe, ↓zdn, ↓zca, ↓zcb, ↓zfa, ↓zfv, ↓zez, ↓zfw, ↓zfc, ↓zfu, ↓zfb, ↓zdj, ↓zcd, ↓zdk, ↓zbl, ↓zdy, ↓zcf, ↓zdz, ↓zcg, ↓zch, ↓zbz, ↓zcc, ↓zdi, ↓zei, ↓zeh, ↓zdx, ↓zdw, ↓zdu, ↓zdq, ↓zea, ↓zcs, ↓zct, ↓zen, ↓zbg, ↓zcv, ↓zcu, ↓zcx, ↓zce, ↓reduceIte, and_self, ↓zbt, ↓zcq, ↓zbs, ↓zbm, ↓zdl, ↓zdf, ↓zby, ↓zec, ↓zed, ↓zee, ↓zef, ↓zdv, ↓zdt, ↓zem, ↓zek, ↓zel, ↓zej, ↓zcl, ↓zeb, ↓zck, ↓zcn, ↓zco, ↓zcm, ↓zbo, ↓zcp, ↓zbn, ↓zbq, ↓zbr, ↓zbp, ↓zal, ↓zak, ↓zai, ↓zba, ↓zaj, ↓zax, ↓zaw, ↓zau, ↓zbe, ↓zav, ↓zad, ↓zac, ↓zaa, ↓zay, ↓zab, ↓zap, ↓zao, ↓zam, ↓zbb, ↓zan, ↓zat, ↓zas, ↓zaq, ↓zbc, ↓zar, ↓zah, ↓zag, ↓zae, ↓zaz, ↓zaf, Bool.not_true, Bool.not_false, Bool.false_eq_true, zbf, zbd, ↓sl0, ↓sl1, ↓sl2, ↓sl3, ↓sl4, ↓sl5, ↓sl6, ↓sl7, ↓sl8, true_and, and_true, zbj, decide_true, decide_false, List.getElem?_cons_zero, List.getElem?_cons_succ, List.set_cons_zero, List.set_cons_succ]
  refine ix_litT v0 (by rw [ll]; exact v1) fun el hel => ?_
  try simp (maxSteps := 4000000) (disch := decide) only [↓zdg, ↓zbx, ↓FL.then_nx, ↓FL.then_rt, ↓FL.then_bk, ↓FL.then_ct, ↓zbu, ↓zbv, ↓zcz, ↓zew, ↓zdc, ↓zex, ↓zdd, ↓zbw, ↓zev, ↓zeu, ↓zet, ↓zcy, ↓zda, ↓zdb, ↓zde, ↓zey, ↓zes, ↓zbi, ↓zfx, ↓zfy, ↓zci, ↓zcj, ↓zfp, ↓zbh, ↓zfh, ↓zfn, ↓zga, ↓zfl, ↓zdp, ↓zdo, ↓zfm, ↓zff, ↓zfk, ↓zgc, ↓zfd, ↓zgd, ↓zfq, ↓or1, ↓and2, ↓or2, ↓zdr, ↓zfs, ↓zds, ↓zft, ↓zfg, ↓zeg, ↓zcr, ↓zfo, ↓zfj, ↓zgb, ↓zfr, ↓zer, ↓zbk, ↓zge, ↓zfz, ↓zfi, ↓zdm, ↓zfe, ↓zdn, ↓zca, ↓zcb, ↓zfa, ↓zfv, ↓zez, ↓zfw, ↓zfc, ↓zfu, ↓zfb, ↓zdj, ↓zcd, ↓zdk, ↓zbl, ↓zdy, ↓zcf, ↓zdz, ↓zcg, ↓zch, ↓zbz, ↓zcc, ↓zdi, ↓zei, ↓zeh, ↓zdx, ↓zdw, ↓zdu, ↓zdq, ↓zea, ↓zcs, ↓zct, ↓zen, ↓zbg, ↓zcv, ↓zcu, ↓zcx, ↓zce, ↓reduceIte, and_self, ↓zbt, ↓zcq, ↓zbs, ↓zbm, ↓zdl, ↓zdf, ↓zby, ↓zec, ↓zed, ↓zee, ↓zef, ↓zdv, ↓zdt, ↓zem, ↓zek, ↓zel, ↓zej, ↓zcl, ↓zeb, ↓zck, ↓zcn, ↓zco, ↓zcm, ↓zbo, ↓zcp, ↓zbn, ↓zbq, ↓zbr, ↓zbp, ↓zal, ↓zak, ↓zai, ↓zba, ↓zaj, ↓zax, ↓zaw, ↓zau, ↓zbe, ↓zav, ↓zad, ↓zac, ↓zaa, ↓zay, ↓zab, ↓zap, ↓zao, ↓zam, ↓zbb, ↓zan, ↓zat, ↓zas, ↓zaq, ↓zbc, ↓zar, ↓zah, ↓zag, ↓zae, ↓zaz, ↓zaf, Bool.not_true, Bool.not_false, Bool.false_eq_true, zbf, zbd, ↓sl0, ↓sl1, ↓sl2, ↓sl3, ↓sl4, ↓sl5, ↓sl6, ↓sl7, ↓sl8, true_and, and_true, zbj, decide_true, decide_false, List.getElem?_cons_zero, List.getElem?_cons_succ, List.set_cons_zero, List.set_cons_succ]
  refine ix_litT (by split <;> omega) (by rw [ll]; split <;> omega) fun be hbe => ?_
  try simp (maxSteps := 4000000) (disch := decide) only [↓zdg, ↓zbx, ↓FL.then_nx, ↓FL.then_rt, ↓FL.then_bk, ↓FL.then_ct, ↓zbu, ↓zbv, ↓zcz, ↓zew, ↓zdc, ↓zex, ↓zdd, ↓zbw, ↓zev, ↓zeu, ↓zet, ↓zcy, ↓zda, ↓zdb, ↓zde, ↓zey, ↓zes, ↓zbi, ↓zfx, ↓zfy, ↓zci, ↓zcj, ↓zfp, ↓zbh, ↓zfh, ↓zfn, ↓zga, ↓zfl, ↓zdp, ↓zdo, ↓zfm, ↓zff, ↓zfk, ↓zgc, ↓zfd, ↓zgd, ↓zfq, ↓or1, ↓and2, ↓or2, ↓zdr, ↓zfs, ↓zds, ↓zft, ↓zfg, ↓zeg, ↓zcr, ↓zfo, ↓zfj, ↓zgb, ↓zfr, ↓zer, ↓zbk, ↓zge, ↓zfz, ↓zfi, ↓zdm, ↓zfe, ↓zdn, ↓zca, ↓zcb, ↓zfa, ↓zfv, ↓zez, ↓zfw, ↓zfc, ↓zfu, ↓zfb, ↓zdj, ↓zcd, ↓zdk, ↓zbl, ↓zdy, ↓zcf, ↓zdz, ↓zcg, ↓zch, ↓zbz, ↓zcc, ↓zdi, ↓zei, ↓zeh, ↓zdx, ↓zdw, ↓zdu, ↓zdq, ↓zea, ↓zcs, ↓zct, ↓zen, ↓zbg, ↓zcv, ↓zcu, ↓zcx, ↓zce, ↓reduceIte, and_self, ↓zbt, ↓zcq, ↓zbs, ↓zbm, ↓zdl, ↓zdf, ↓zby, ↓zec, ↓zed, ↓zee, ↓zef, ↓zdv, ↓zdt, ↓zem, ↓zek, ↓zel, ↓zej, ↓zcl, ↓zeb, ↓zck, ↓zcn, ↓zco, ↓zcm, ↓zbo, ↓zcp, ↓zbn, ↓zbq, ↓zbr, ↓zbp, ↓zal, ↓zak, ↓zai, ↓zba, ↓zaj, ↓zax, ↓zaw, ↓zau, ↓zbe, ↓zav, ↓zad, ↓zac, ↓zaa, ↓zay, ↓zab, ↓zap, ↓zao, ↓zam, ↓zbb, ↓zan, ↓zat, ↓zas, ↓zaq, ↓zbc, ↓zar, ↓zah, ↓zag, ↓zae, ↓zaz, ↓zaf, Bool.not_true, Bool.not_false, Bool.false_eq_true, zbf, zbd, ↓sl0, ↓sl1, ↓sl2, ↓sl3, ↓sl4, ↓sl5, ↓sl6, ↓sl7, ↓sl8, true_and, and_true, zbj, decide_true, decide_false, List.getElem?_cons_zero, List.getElem?_cons_succ, List.set_cons_zero, List.set_cons_succ]
  obtain ⟨e1, rfl⟩ := isTe_mem hel
  obtain ⟨e2, rfl⟩ := isTe_mem hbe
  -- what stands behind the touching pair
  suffices rest : ∀ tc : D, IsTe tc → ∀ s2 s1 s0 : Option D, vSs (F := fun _ _ _ => False) tT30 (match bB30 with | .cons _ (.cons _ (.cons _ (.cons _ (.cons _ (.cons _ r))))) => r | r => r) [some (.ref t), some (.tup (es.map teD)), some (.int v), some (teD e1), some (teD e2), some (tc), none, none] h1 (retW (spoF t es h)) by
    have r0 := rest (.tup [.int 3, .int 9]) ⟨.pr (.inl 3) (.inl 9), rfl⟩ none none none
    unfold bB30 at rest r0
    cases e2 with
    | sc k => cases k <;> (simp (maxSteps := 4000000) (disch := decide) only [↓zdg, ↓zbx, ↓FL.then_nx, ↓FL.then_rt, ↓FL.then_bk, ↓FL.then_ct, ↓zbu, ↓zbv, ↓zcz, ↓zew, ↓zdc, ↓zex, ↓zdd, ↓zbw, ↓zev, ↓zeu, ↓zet, ↓zcy, ↓zda, ↓zdb, ↓zde, ↓zey, ↓zes, ↓zbi, ↓zfx, ↓zfy, ↓zci, ↓zcj, ↓zfp, ↓zbh, ↓zfh, ↓zfn, ↓zga, ↓zfl, ↓zdp, ↓zdo, ↓zfm, ↓zff, ↓zfk, ↓zgc, ↓zfd, ↓zgd, ↓zfq, ↓or1, ↓and2, ↓or2, ↓zdr, ↓zfs, ↓zds, ↓zft, ↓zfg, ↓zeg, ↓zcr, ↓zfo, ↓zfj, ↓zgb, ↓zfr, ↓zer, ↓zbk, ↓zge, ↓zfz, ↓zfi, ↓zdm, ↓zfe, ↓zdn, ↓zca, ↓zcb, ↓zfa, ↓zfv, ↓zez, ↓zfw, ↓zfc, ↓zfu, ↓zfb, ↓zdj, ↓zcd, ↓zdk, ↓zbl, ↓zdy, ↓zcf, ↓zdz, ↓zcg, ↓zch, ↓zbz, ↓zcc, ↓zdi, ↓zei, ↓zeh, ↓zdx, ↓zdw, ↓zdu, ↓zdq, ↓zea, ↓zcs, ↓zct, ↓zen, ↓zbg, ↓zcv, ↓zcu, ↓zcx, ↓zce, ↓reduceIte, and_self, ↓zbt, ↓zcq, ↓zbs, ↓zbm, ↓zdl, ↓zdf, ↓zby, ↓zec, ↓zed, ↓zee, ↓zef, ↓zdv, ↓zdt, ↓zem, ↓zek, ↓zel, ↓zej, ↓zcl, ↓zeb, ↓zck, ↓zcn, ↓zco, ↓zcm, ↓zbo, ↓zcp, ↓zbn, ↓zbq, ↓zbr, ↓zbp, ↓zal, ↓zak, ↓zai, ↓zba, ↓zaj, ↓zax, ↓zaw, ↓zau, ↓zbe, ↓zav, ↓zad, ↓zac, ↓zaa, ↓zay, ↓zab, ↓zap, ↓zao, ↓zam, ↓zbb, ↓zan, ↓zat, ↓zas, ↓zaq, ↓zbc, ↓zar, ↓zah, ↓zag, ↓zae, ↓zaz, ↓zaf, Bool.not_true, Bool.not_false, Bool.false_eq_true, zbf, zbd, ↓sl0, ↓sl1, ↓sl2, ↓sl3, ↓sl4, ↓sl5, ↓sl6, ↓sl7, ↓sl8, true_and, and_true, zbj, decide_true, decide_false, List.getElem?_cons_zero, List.getElem?_cons_succ, List.set_cons_zero, List.set_cons_succ, teD, kD]; exact (by revert r0; simp (maxSteps := 4000000) (disch := decide) only [↓zdg, ↓zbx, ↓FL.then_nx, ↓FL.then_rt, ↓FL.then_bk, ↓FL.then_ct, ↓zbu, ↓zbv, ↓zcz, ↓zew, ↓zdc, ↓zex, ↓zdd, ↓zbw, ↓zev, ↓zeu, ↓zet, ↓zcy, ↓zda, ↓zdb, ↓zde, ↓zey, ↓zes, ↓zbi, ↓zfx, ↓zfy, ↓zci, ↓zcj, ↓zfp, ↓zbh, ↓zfh, ↓zfn, ↓zga, ↓zfl, ↓zdp, ↓zdo, ↓zfm, ↓zff, ↓zfk, ↓zgc, ↓zfd, ↓zgd, ↓zfq, ↓or1, ↓and2, ↓or2, ↓zdr, ↓zfs, ↓zds, ↓zft, ↓zfg, ↓zeg, ↓zcr, ↓zfo, ↓zfj, ↓zgb, ↓zfr, ↓zer, ↓zbk, ↓zge, ↓zfz, ↓zfi, ↓zdm, ↓zfe, ↓zdn, ↓zca, ↓zcb, ↓zfa, ↓zfv, ↓zez, ↓zfw, ↓zfc, ↓zfu, ↓zfb, ↓zdj, ↓zcd, ↓zdk, ↓zbl, ↓zdy, ↓zcf, ↓zdz, ↓zcg, ↓zch, ↓zbz, ↓zcc, ↓zdi, ↓zei, ↓zeh, ↓zdx, ↓zdw, ↓zdu, ↓zdq, ↓zea, ↓zcs, ↓zct, ↓zen, ↓zbg, ↓zcv, ↓zcu, ↓zcx, ↓zce, ↓reduceIte, and_self, ↓zbt, ↓zcq, ↓zbs, ↓zbm, ↓zdl, ↓zdf, ↓zby, ↓zec, ↓zed, ↓zee, ↓zef, ↓zdv, ↓zdt, ↓zem, ↓zek, ↓zel, ↓zej, ↓zcl, ↓zeb, ↓zck, ↓zcn, ↓zco, ↓zcm, ↓zbo, ↓zcp, ↓zbn, ↓zbq, ↓zbr, ↓zbp, ↓zal, ↓zak, ↓zai, ↓zba, ↓zaj, ↓zax, ↓zaw, ↓zau, ↓zbe, ↓zav, ↓zad, ↓zac, ↓zaa, ↓zay, ↓zab, ↓zap, ↓zao, ↓zam, ↓zbb, ↓zan, ↓zat, ↓zas, ↓zaq, ↓zbc, ↓zar, ↓zah, ↓zag, ↓zae, ↓zaz, ↓zaf, Bool.not_true, Bool.not_false, Bool.false_eq_true, zbf, zbd, ↓sl0, ↓sl1, ↓sl2, ↓sl3, ↓sl4, ↓sl5, ↓sl6, ↓sl7, ↓sl8, true_and, and_true, zbj, decide_true, decide_false, List.getElem?_cons_zero, List.getElem?_cons_succ, List.set_cons_zero, List.set_cons_succ, teD, kD]; exact id))
    | pr a b =>
      cases b with
      | inr x => simp (maxSteps := 4000000) (disch := decide) only [↓zdg, ↓zbx, ↓FL.then_nx, ↓FL.then_rt, ↓FL.then_bk, ↓FL.then_ct, ↓zbu, ↓zbv, ↓zcz, ↓zew, ↓zdc, ↓zex, ↓zdd, ↓zbw, ↓zev, ↓zeu, ↓zet, ↓zcy, ↓zda, ↓zdb, ↓zde, ↓zey, ↓zes, ↓zbi, ↓zfx, ↓zfy, ↓zci, ↓zcj, ↓zfp, ↓zbh, ↓zfh, ↓zfn, ↓zga, ↓zfl, ↓zdp, ↓zdo, ↓zfm, ↓zff, ↓zfk, ↓zgc, ↓zfd, ↓zgd, ↓zfq, ↓or1, ↓and2, ↓or2, ↓zdr, ↓zfs, ↓zds, ↓zft, ↓zfg, ↓zeg, ↓zcr, ↓zfo, ↓zfj, ↓zgb, ↓zfr, ↓zer, ↓zbk, ↓zge, ↓zfz, ↓zfi, ↓zdm, ↓zfe, ↓zdn, ↓zca, ↓zcb, ↓zfa, ↓zfv, ↓zez, ↓zfw, ↓zfc, ↓zfu, ↓zfb, ↓zdj, ↓zcd, ↓zdk, ↓zbl, ↓zdy, ↓zcf, ↓zdz, ↓zcg, ↓zch, ↓zbz, ↓zcc, ↓zdi, ↓zei, ↓zeh, ↓zdx, ↓zdw, ↓zdu, ↓zdq, ↓zea, ↓zcs, ↓zct, ↓zen, ↓zbg, ↓zcv, ↓zcu, ↓zcx, ↓zce, ↓reduceIte, and_self, ↓zbt, ↓zcq, ↓zbs, ↓zbm, ↓zdl, ↓zdf, ↓zby, ↓zec, ↓zed, ↓zee, ↓zef, ↓zdv, ↓zdt, ↓zem, ↓zek, ↓zel, ↓zej, ↓zcl, ↓zeb, ↓zck, ↓zcn, ↓zco, ↓zcm, ↓zbo, ↓zcp, ↓zbn, ↓zbq, ↓zbr, ↓zbp, ↓zal, ↓zak, ↓zai, ↓zba, ↓zaj, ↓zax, ↓zaw, ↓zau, ↓zbe, ↓zav, ↓zad, ↓zac, ↓zaa, ↓zay, ↓zab, ↓zap, ↓zao, ↓zam, ↓zbb, ↓zan, ↓zat, ↓zas, ↓zaq, ↓zbc, ↓zar, ↓zah, ↓zag, ↓zae, ↓zaz, ↓zaf, Bool.not_true, Bool.not_false, Bool.false_eq_true, zbf, zbd, ↓sl0, ↓sl1, ↓sl2, ↓sl3, ↓sl4, ↓sl5, ↓sl6, ↓sl7, ↓sl8, true_and, and_true, zbj, decide_true, decide_false, List.getElem?_cons_zero, List.getElem?_cons_succ, List.set_cons_zero, List.set_cons_succ, teD, kD]; exact (by revert r0; simp (maxSteps := 4000000) (disch := decide) only [↓zdg, ↓zbx, ↓FL.then_nx, ↓FL.then_rt, ↓FL.then_bk, ↓FL.then_ct, ↓zbu, ↓zbv, ↓zcz, ↓zew, ↓zdc, ↓zex, ↓zdd, ↓zbw, ↓zev, ↓zeu, ↓zet, ↓zcy, ↓zda, ↓zdb, ↓zde, ↓zey, ↓zes, ↓zbi, ↓zfx, ↓zfy, ↓zci, ↓zcj, ↓zfp, ↓zbh, ↓zfh, ↓zfn, ↓zga, ↓zfl, ↓zdp, ↓zdo, ↓zfm, ↓zff, ↓zfk, ↓zgc, ↓zfd, ↓zgd, ↓zfq, ↓or1, ↓and2, ↓or2, ↓zdr, ↓zfs, ↓zds, ↓zft, ↓zfg, ↓zeg, ↓zcr, ↓zfo, ↓zfj, ↓zgb, ↓zfr, ↓zer, ↓zbk, ↓zge, ↓zfz, ↓zfi, ↓zdm, ↓zfe, ↓zdn, ↓zca, ↓zcb, ↓zfa, ↓zfv, ↓zez, ↓zfw, ↓zfc, ↓zfu, ↓zfb, ↓zdj, ↓zcd, ↓zdk, ↓zbl, ↓zdy, ↓zcf, ↓zdz, ↓zcg, ↓zch, ↓zbz, ↓zcc, ↓zdi, ↓zei, ↓zeh, ↓zdx, ↓zdw, ↓zdu, ↓zdq, ↓zea, ↓zcs, ↓zct, ↓zen, ↓zbg, ↓zcv, ↓zcu, ↓zcx, ↓zce, ↓reduceIte, and_self, ↓zbt, ↓zcq, ↓zbs, ↓zbm, ↓zdl, ↓zdf, ↓zby, ↓zec, ↓zed, ↓zee, ↓zef, ↓zdv, ↓zdt, ↓zem, ↓zek, ↓zel, ↓zej, ↓zcl, ↓zeb, ↓zck, ↓zcn, ↓zco, ↓zcm, ↓zbo, ↓zcp, ↓zbn, ↓zbq, ↓zbr, ↓zbp, ↓zal, ↓zak, ↓zai, ↓zba, ↓zaj, ↓zax, ↓zaw, ↓zau, ↓zbe, ↓zav, ↓zad, ↓zac, ↓zaa, ↓zay, ↓zab, ↓zap, ↓zao, ↓zam, ↓zbb, ↓zan, ↓zat, ↓zas, ↓zaq, ↓zbc, ↓zar, ↓zah, ↓zag, ↓zae, ↓zaz, ↓zaf, Bool.not_true, Bool.not_false, Bool.false_eq_true, zbf, zbd, ↓sl0, ↓sl1, ↓sl2, ↓sl3, ↓sl4, ↓sl5, ↓sl6, ↓sl7, ↓sl8, true_and, and_true, zbj, decide_true, decide_false, List.getElem?_cons_zero, List.getElem?_cons_succ, List.set_cons_zero, List.set_cons_succ, teD, kD]; exact id)
      | inl i =>
        have r1 := rest (.tup [.int i, .int (if 10 ^ Int.toNat 15 < i + 9 then 10 ^ Int.toNat 15 else i + 9)]) ⟨.pr (.inl i) (.inl _), rfl⟩ none none none
        simp (maxSteps := 4000000) (disch := decide) only [↓zdg, ↓zbx, ↓FL.then_nx, ↓FL.then_rt, ↓FL.then_bk, ↓FL.then_ct, ↓zbu, ↓zbv, ↓zcz, ↓zew, ↓zdc, ↓zex, ↓zdd, ↓zbw, ↓zev, ↓zeu, ↓zet, ↓zcy, ↓zda, ↓zdb, ↓zde, ↓zey, ↓zes, ↓zbi, ↓zfx, ↓zfy, ↓zci, ↓zcj, ↓zfp, ↓zbh, ↓zfh, ↓zfn, ↓zga, ↓zfl, ↓zdp, ↓zdo, ↓zfm, ↓zff, ↓zfk, ↓zgc, ↓zfd, ↓zgd, ↓zfq, ↓or1, ↓and2, ↓or2, ↓zdr, ↓zfs, ↓zds, ↓zft, ↓zfg, ↓zeg, ↓zcr, ↓zfo, ↓zfj, ↓zgb, ↓zfr, ↓zer, ↓zbk, ↓zge, ↓zfz, ↓zfi, ↓zdm, ↓zfe, ↓zdn, ↓zca, ↓zcb, ↓zfa, ↓zfv, ↓zez, ↓zfw, ↓zfc, ↓zfu, ↓zfb, ↓zdj, ↓zcd, ↓zdk, ↓zbl, ↓zdy, ↓zcf, ↓zdz, ↓zcg, ↓zch, ↓zbz, ↓zcc, ↓zdi, ↓zei, ↓zeh, ↓zdx, ↓zdw, ↓zdu, ↓zdq, ↓zea, ↓zcs, ↓zct, ↓zen, ↓zbg, ↓zcv, ↓zcu, ↓zcx, ↓zce, ↓reduceIte, and_self, ↓zbt, ↓zcq, ↓zbs, ↓zbm, ↓zdl, ↓zdf, ↓zby, ↓zec, ↓zed, ↓zee, ↓zef, ↓zdv, ↓zdt, ↓zem, ↓zek, ↓zel, ↓zej, ↓zcl, ↓zeb, ↓zck, ↓zcn, ↓zco, ↓zcm, ↓zbo, ↓zcp, ↓zbn, ↓zbq, ↓zbr, ↓zbp, ↓zal, ↓zak, ↓zai, ↓zba, ↓zaj, ↓zax, ↓zaw, ↓zau, ↓zbe, ↓zav, ↓zad, ↓zac, ↓zaa, ↓zay, ↓zab, ↓zap, ↓zao, ↓zam, ↓zbb, ↓zan, ↓zat, ↓zas, ↓zaq, ↓zbc, ↓zar, ↓zah, ↓zag, ↓zae, ↓zaz, ↓zaf, Bool.not_true, Bool.not_false, Bool.false_eq_true, zbf, zbd, ↓sl0, ↓sl1, ↓sl2, ↓sl3, ↓sl4, ↓sl5, ↓sl6, ↓sl7, ↓sl8, true_and, and_true, zbj, decide_true, decide_false, List.getElem?_cons_zero, List.getElem?_cons_succ, List.set_cons_zero, List.set_cons_succ, teD, kD]
        exact (by revert r1; simp (maxSteps := 4000000) (disch := decide) only [↓zdg, ↓zbx, ↓FL.then_nx, ↓FL.then_rt, ↓FL.then_bk, ↓FL.then_ct, ↓zbu, ↓zbv, ↓zcz, ↓zew, ↓zdc, ↓zex, ↓zdd, ↓zbw, ↓zev, ↓zeu, ↓zet, ↓zcy, ↓zda, ↓zdb, ↓zde, ↓zey, ↓zes, ↓zbi, ↓zfx, ↓zfy, ↓zci, ↓zcj, ↓zfp, ↓zbh, ↓zfh, ↓zfn, ↓zga, ↓zfl, ↓zdp, ↓zdo, ↓zfm, ↓zff, ↓zfk, ↓zgc, ↓zfd, ↓zgd, ↓zfq, ↓or1, ↓and2, ↓or2, ↓zdr, ↓zfs, ↓zds, ↓zft, ↓zfg, ↓zeg, ↓zcr, ↓zfo, ↓zfj, ↓zgb, ↓zfr, ↓zer, ↓zbk, ↓zge, ↓zfz, ↓zfi, ↓zdm, ↓zfe, ↓zdn, ↓zca, ↓zcb, ↓zfa, ↓zfv, ↓zez, ↓zfw, ↓zfc, ↓zfu, ↓zfb, ↓zdj, ↓zcd, ↓zdk, ↓zbl, ↓zdy, ↓zcf, ↓zdz, ↓zcg, ↓zch, ↓zbz, ↓zcc, ↓zdi, ↓zei, ↓zeh, ↓zdx, ↓zdw, ↓zdu, ↓zdq, ↓zea, ↓zcs, ↓zct, ↓zen, ↓zbg, ↓zcv, ↓zcu, ↓zcx, ↓zce, ↓reduceIte, and_self, ↓zbt, ↓zcq, ↓zbs, ↓zbm, ↓zdl, ↓zdf, ↓zby, ↓zec, ↓zed, ↓zee, ↓zef, ↓zdv, ↓zdt, ↓zem, ↓zek, ↓zel, ↓zej, ↓zcl, ↓zeb, ↓zck, ↓zcn, ↓zco, ↓zcm, ↓zbo, ↓zcp, ↓zbn, ↓zbq, ↓zbr, ↓zbp, ↓zal, ↓zak, ↓zai, ↓zba, ↓zaj, ↓zax, ↓zaw, ↓zau, ↓zbe, ↓zav, ↓zad, ↓zac, ↓zaa, ↓zay, ↓zab, ↓zap, ↓zao, ↓zam, ↓zbb, ↓zan, ↓zat, ↓zas, ↓zaq, ↓zbc, ↓zar, ↓zah, ↓zag, ↓zae, ↓zaz, ↓zaf, Bool.not_true, Bool.not_false, Bool.false_eq_true, zbf, zbd, ↓sl0, ↓sl1, ↓sl2, ↓sl3, ↓sl4, ↓sl5, ↓sl6, ↓sl7, ↓sl8, true_and, and_true, zbj, decide_true, decide_false, List.getElem?_cons_zero, List.getElem?_cons_succ, List.set_cons_zero, List.set_cons_succ, teD, kD]; exact id)
  intro tc htc _ _ _
  unfold bB30
  try simp (maxSteps := 4000000) (disch := decide) only [↓zdg, ↓zbx, ↓FL.then_nx, ↓FL.then_rt, ↓FL.then_bk, ↓FL.then_ct, ↓zbu, ↓zbv, ↓zcz, ↓zew, ↓zdc, ↓zex, ↓zdd, ↓zbw, ↓zev, ↓zeu, ↓zet, ↓zcy, ↓zda, ↓zdb, ↓zde, ↓zey, ↓zes, ↓zbi, ↓zfx, ↓zfy, ↓zci, ↓zcj, ↓zfp, ↓zbh, ↓zfh, ↓zfn, ↓zga, ↓zfl, ↓zdp, ↓zdo, ↓zfm, ↓zff, ↓zfk, ↓zgc, ↓zfd, ↓zgd, ↓zfq, ↓or1, ↓and2, ↓or2, ↓zdr, ↓zfs, ↓zds, ↓zft, ↓zfg, ↓zeg, ↓zcr, ↓zfo, ↓zfj, ↓zgb, ↓zfr, ↓zer, ↓zbk, ↓zge, ↓zfz, ↓zfi, ↓zdm, ↓zfe, ↓zdn, ↓zca, ↓zcb, ↓zfa, ↓zfv, ↓zez, ↓zfw, ↓zfc, ↓zfu, ↓zfb, ↓zdj, ↓zcd, ↓zdk, ↓zbl, ↓zdy, ↓zcf, ↓zdz, ↓zcg, ↓zch, ↓zbz, ↓zcc, ↓zdi, ↓zei, ↓zeh, ↓zdx, ↓zdw, ↓zdu, ↓zdq, ↓zea, ↓zcs, ↓zct, ↓zen, ↓zbg, ↓zcv, ↓zcu, ↓zcx, ↓zce, ↓reduceIte, and_self, ↓zbt, ↓zcq, ↓zbs, ↓zbm, ↓zdl, ↓zdf, ↓zby, ↓zec, ↓zed, ↓zee, ↓zef, ↓zdv, ↓zdt, ↓zem, ↓zek, ↓zel, ↓zej, ↓zcl, ↓zeb, ↓zck, ↓zcn, ↓zco, ↓zcm, ↓zbo, ↓zcp, ↓zbn, ↓zbq, ↓zbr, ↓zbp, ↓zal, ↓zak, ↓zai, ↓zba, ↓zaj, ↓zax, ↓zaw, ↓zau, ↓zbe, ↓zav, ↓zad, ↓zac, ↓zaa, ↓zay, ↓zab, ↓zap, ↓zao, ↓zam, ↓zbb, ↓zan, ↓zat, ↓zas, ↓zaq, ↓zbc, ↓zar, ↓zah, ↓zag, ↓zae, ↓zaz, ↓zaf, Bool.not_true, Bool.not_false, Bool.false_eq_true, zbf, zbd, ↓sl0, ↓sl1, ↓sl2, ↓sl3, ↓sl4, ↓sl5, ↓sl6, ↓sl7, ↓sl8, true_and, and_true, zbj, decide_true, decide_false, List.getElem?_cons_zero, List.getElem?_cons_succ, List.set_cons_zero, List.set_cons_succ, tt30_14]
  refine draw_v T1.app (by decide) (by decide) fun w h2 w0 w1 T2 f2 => ?_
  refine ix_lit (Fr.new T1 f2) w0 w1 fun st hst => ?_
  have hst : IsTe st := by
    simp only [List.mem_cons, List.not_mem_nil, or_false] at hst
    rcases hst with rfl | rfl | rfl | rfl | rfl | rfl | rfl
    · exact ⟨.sc (.inl 7), rfl⟩
    · exact ⟨.sc (.inr "b"), rfl⟩
    · exact ⟨.pr (.inr "a") (.inr "b"), rfl⟩
    · exact ⟨.pr (.inl 5) (.inl 5), rfl⟩
    · exact htc
    · exact ⟨.pr (.inl 0) (.inr "x"), rfl⟩
    · exact ⟨e2, rfl⟩
  try simp (maxSteps := 4000000) (disch := decide) only [↓zdg, ↓zbx, ↓FL.then_nx, ↓FL.then_rt, ↓FL.then_bk, ↓FL.then_ct, ↓zbu, ↓zbv, ↓zcz, ↓zew, ↓zdc, ↓zex, ↓zdd, ↓zbw, ↓zev, ↓zeu, ↓zet, ↓zcy, ↓zda, ↓zdb, ↓zde, ↓zey, ↓zes, ↓zbi, ↓zfx, ↓zfy, ↓zci, ↓zcj, ↓zfp, ↓zbh, ↓zfh, ↓zfn, ↓zga, ↓zfl, ↓zdp, ↓zdo, ↓zfm, ↓zff, ↓zfk, ↓zgc, ↓zfd, ↓zgd, ↓zfq, ↓or1, ↓and2, ↓or2, ↓zdr, ↓zfs, ↓zds, ↓zft, ↓zfg, ↓zeg, ↓zcr, ↓zfo, ↓zfj, ↓zgb, ↓zfr, ↓zer, ↓zbk, ↓zge, ↓zfz, ↓zfi, ↓zdm, ↓zfe, ↓zdn, ↓zca, ↓zcb, ↓zfa, ↓zfv, ↓zez, ↓zfw, ↓zfc, ↓zfu, ↓zfb, ↓zdj, ↓zcd, ↓zdk, ↓zbl, ↓zdy, ↓zcf, ↓zdz, ↓zcg, ↓zch, ↓zbz, ↓zcc, ↓zdi, ↓zei, ↓zeh, ↓zdx, ↓zdw, ↓zdu, ↓zdq, ↓zea, ↓zcs, ↓zct, ↓zen, ↓zbg, ↓zcv, ↓zcu, ↓zcx, ↓zce, ↓reduceIte, and_self, ↓zbt, ↓zcq, ↓zbs, ↓zbm, ↓zdl, ↓zdf, ↓zby, ↓zec, ↓zed, ↓zee, ↓zef, ↓zdv, ↓zdt, ↓zem, ↓zek, ↓zel, ↓zej, ↓zcl, ↓zeb, ↓zck, ↓zcn, ↓zco, ↓zcm, ↓zbo, ↓zcp, ↓zbn, ↓zbq, ↓zbr, ↓zbp, ↓zal, ↓zak, ↓zai, ↓zba, ↓zaj, ↓zax, ↓zaw, ↓zau, ↓zbe, ↓zav, ↓zad, ↓zac, ↓zaa, ↓zay, ↓zab, ↓zap, ↓zao, ↓zam, ↓zbb, ↓zan, ↓zat, ↓zas, ↓zaq, ↓zbc, ↓zar, ↓zah, ↓zag, ↓zae, ↓zaz, ↓zaf, Bool.not_true, Bool.not_false, Bool.false_eq_true, zbf, zbd, ↓sl0, ↓sl1, ↓sl2, ↓sl3, ↓sl4, ↓sl5, ↓sl6, ↓sl7, ↓sl8, true_and, and_true, zbj, decide_true, decide_false, List.getElem?_cons_zero, List.getElem?_cons_succ, List.set_cons_zero, List.set_cons_succ, tt30_14]
  refine draw_v T2 (by decide) (by decide) fun c h3 c0 c1 T3 f3 => ?_
  have F3 : Fr t h h3 := ((f1.trans .app).trans f2).trans f3
  have cm : ∀ {lo hi : Option Int}, ∀ x ∈ cutD (es.map teD) lo hi, IsTe x := fun x hx => isTe_mem (cut_mem hx)
  have cl : ∀ {lo hi : Option Int}, (cutD (es.map teD) lo hi).length ≤ 60000 := fun {lo hi} => Nat.le_trans cut_le (by rw [ll]; exact hl)
  have one : ∀ {x : D}, IsTe x → ∀ y ∈ [x], IsTe y := fun hx y hy => by rw [List.mem_singleton.mp hy]; exact hx
  try simp (maxSteps := 4000000) (disch := decide) only [↓zdg, ↓zbx, ↓FL.then_nx, ↓FL.then_rt, ↓FL.then_bk, ↓FL.then_ct, ↓zbu, ↓zbv, ↓zcz, ↓zew, ↓zdc, ↓zex, ↓zdd, ↓zbw, ↓zev, ↓zeu, ↓zet, ↓zcy, ↓zda, ↓zdb, ↓zde, ↓zey, ↓zes, ↓zbi, ↓zfx, ↓zfy, ↓zci, ↓zcj, ↓zfp, ↓zbh, ↓zfh, ↓zfn, ↓zga, ↓zfl, ↓zdp, ↓zdo, ↓zfm, ↓zff, ↓zfk, ↓zgc, ↓zfd, ↓zgd, ↓zfq, ↓or1, ↓and2, ↓or2, ↓zdr, ↓zfs, ↓zds, ↓zft, ↓zfg, ↓zeg, ↓zcr, ↓zfo, ↓zfj, ↓zgb, ↓zfr, ↓zer, ↓zbk, ↓zge, ↓zfz, ↓zfi, ↓zdm, ↓zfe, ↓zdn, ↓zca, ↓zcb, ↓zfa, ↓zfv, ↓zez, ↓zfw, ↓zfc, ↓zfu, ↓zfb, ↓zdj, ↓zcd, ↓zdk, ↓zbl, ↓zdy, ↓zcf, ↓zdz, ↓zcg, ↓zch, ↓zbz, ↓zcc, ↓zdi, ↓zei, ↓zeh, ↓zdx, ↓zdw, ↓zdu, ↓zdq, ↓zea, ↓zcs, ↓zct, ↓zen, ↓zbg, ↓zcv, ↓zcu, ↓zcx, ↓zce, ↓reduceIte, and_self, ↓zbt, ↓zcq, ↓zbs, ↓zbm, ↓zdl, ↓zdf, ↓zby, ↓zec, ↓zed, ↓zee, ↓zef, ↓zdv, ↓zdt, ↓zem, ↓zek, ↓zel, ↓zej, ↓zcl, ↓zeb, ↓zck, ↓zcn, ↓zco, ↓zcm, ↓zbo, ↓zcp, ↓zbn, ↓zbq, ↓zbr, ↓zbp, ↓zal, ↓zak, ↓zai, ↓zba, ↓zaj, ↓zax, ↓zaw, ↓zau, ↓zbe, ↓zav, ↓zad, ↓zac, ↓zaa, ↓zay, ↓zab, ↓zap, ↓zao, ↓zam, ↓zbb, ↓zan, ↓zat, ↓zas, ↓zaq, ↓zbc, ↓zar, ↓zah, ↓zag, ↓zae, ↓zaz, ↓zaf, Bool.not_true, Bool.not_false, Bool.false_eq_true, zbf, zbd, ↓sl0, ↓sl1, ↓sl2, ↓sl3, ↓sl4, ↓sl5, ↓sl6, ↓sl7, ↓sl8, true_and, and_true, zbj, decide_true, decide_false, List.getElem?_cons_zero, List.getElem?_cons_succ, List.set_cons_zero, List.set_cons_succ]
  split
  · try simp (maxSteps := 4000000) (disch := decide) only [↓zdg, ↓zbx, ↓FL.then_nx, ↓FL.then_rt, ↓FL.then_bk, ↓FL.then_ct, ↓zbu, ↓zbv, ↓zcz, ↓zew, ↓zdc, ↓zex, ↓zdd, ↓zbw, ↓zev, ↓zeu, ↓zet, ↓zcy, ↓zda, ↓zdb, ↓zde, ↓zey, ↓zes, ↓zbi, ↓zfx, ↓zfy, ↓zci, ↓zcj, ↓zfp, ↓zbh, ↓zfh, ↓zfn, ↓zga, ↓zfl, ↓zdp, ↓zdo, ↓zfm, ↓zff, ↓zfk, ↓zgc, ↓zfd, ↓zgd, ↓zfq, ↓or1, ↓and2, ↓or2, ↓zdr, ↓zfs, ↓zds, ↓zft, ↓zfg, ↓zeg, ↓zcr, ↓zfo, ↓zfj, ↓zgb, ↓zfr, ↓zer, ↓zbk, ↓zge, ↓zfz, ↓zfi, ↓zdm, ↓zfe, ↓zdn, ↓zca, ↓zcb, ↓zfa, ↓zfv, ↓zez, ↓zfw, ↓zfc, ↓zfu, ↓zfb, ↓zdj, ↓zcd, ↓zdk, ↓zbl, ↓zdy, ↓zcf, ↓zdz, ↓zcg, ↓zch, ↓zbz, ↓zcc, ↓zdi, ↓zei, ↓zeh, ↓zdx, ↓zdw, ↓zdu, ↓zdq, ↓zea, ↓zcs, ↓zct, ↓zen, ↓zbg, ↓zcv, ↓zcu, ↓zcx, ↓zce, ↓reduceIte, and_self, ↓zbt, ↓zcq, ↓zbs, ↓zbm, ↓zdl, ↓zdf, ↓zby, ↓zec, ↓zed, ↓zee, ↓zef, ↓zdv, ↓zdt, ↓zem, ↓zek, ↓zel, ↓zej, ↓zcl, ↓zeb, ↓zck, ↓zcn, ↓zco, ↓zcm, ↓zbo, ↓zcp, ↓zbn, ↓zbq, ↓zbr, ↓zbp, ↓zal, ↓zak, ↓zai, ↓zba, ↓zaj, ↓zax, ↓zaw, ↓zau, ↓zbe, ↓zav, ↓zad, ↓zac, ↓zaa, ↓zay, ↓zab, ↓zap, ↓zao, ↓zam, ↓zbb, ↓zan, ↓zat, ↓zas, ↓zaq, ↓zbc, ↓zar, ↓zah, ↓zag, ↓zae, ↓zaz, ↓zaf, Bool.not_true, Bool.not_false, Bool.false_eq_true, zbf, zbd, ↓sl0, ↓sl1, ↓sl2, ↓sl3, ↓sl4, ↓sl5, ↓sl6, ↓sl7, ↓sl8, true_and, and_true, zbj, decide_true, decide_false, List.getElem?_cons_zero, List.getElem?_cons_succ, List.set_cons_zero, List.set_cons_succ]
    have c1 := cl (lo := none) (hi := some v)
    have c2 := cl (lo := some (v + 1)) (hi := none)
    refine (add_tt (sz (by simp; omega))).mpr ((add_tt (sz (by simp; omega))).mpr ?_)
    exact spoF_of (cat_te (cat_te cm (one hst)) cm) (by simp; omega) T3 F3
  · try simp (maxSteps := 4000000) (disch := decide) only [↓zdg, ↓zbx, ↓FL.then_nx, ↓FL.then_rt, ↓FL.then_bk, ↓FL.then_ct, ↓zbu, ↓zbv, ↓zcz, ↓zew, ↓zdc, ↓zex, ↓zdd, ↓zbw, ↓zev, ↓zeu, ↓zet, ↓zcy, ↓zda, ↓zdb, ↓zde, ↓zey, ↓zes, ↓zbi, ↓zfx, ↓zfy, ↓zci, ↓zcj, ↓zfp, ↓zbh, ↓zfh, ↓zfn, ↓zga, ↓zfl, ↓zdp, ↓zdo, ↓zfm, ↓zff, ↓zfk, ↓zgc, ↓zfd, ↓zgd, ↓zfq, ↓or1, ↓and2, ↓or2, ↓zdr, ↓zfs, ↓zds, ↓zft, ↓zfg, ↓zeg, ↓zcr, ↓zfo, ↓zfj, ↓zgb, ↓zfr, ↓zer, ↓zbk, ↓zge, ↓zfz, ↓zfi, ↓zdm, ↓zfe, ↓zdn, ↓zca, ↓zcb, ↓zfa, ↓zfv, ↓zez, ↓zfw, ↓zfc, ↓zfu, ↓zfb, ↓zdj, ↓zcd, ↓zdk, ↓zbl, ↓zdy, ↓zcf, ↓zdz, ↓zcg, ↓zch, ↓zbz, ↓zcc, ↓zdi, ↓zei, ↓zeh, ↓zdx, ↓zdw, ↓zdu, ↓zdq, ↓zea, ↓zcs, ↓zct, ↓zen, ↓zbg, ↓zcv, ↓zcu, ↓zcx, ↓zce, ↓reduceIte, and_self, ↓zbt, ↓zcq, ↓zbs, ↓zbm, ↓zdl, ↓zdf, ↓zby, ↓zec, ↓zed, ↓zee, ↓zef, ↓zdv, ↓zdt, ↓zem, ↓zek, ↓zel, ↓zej, ↓zcl, ↓zeb, ↓zck, ↓zcn, ↓zco, ↓zcm, ↓zbo, ↓zcp, ↓zbn, ↓zbq, ↓zbr, ↓zbp, ↓zal, ↓zak, ↓zai, ↓zba, ↓zaj, ↓zax, ↓zaw, ↓zau, ↓zbe, ↓zav, ↓zad, ↓zac, ↓zaa, ↓zay, ↓zab, ↓zap, ↓zao, ↓zam, ↓zbb, ↓zan, ↓zat, ↓zas, ↓zaq, ↓zbc, ↓zar, ↓zah, ↓zag, ↓zae, ↓zaz, ↓zaf, Bool.not_true, Bool.not_false, Bool.false_eq_true, zbf, zbd, ↓sl0, ↓sl1, ↓sl2, ↓sl3, ↓sl4, ↓sl5, ↓sl6, ↓sl7, ↓sl8, true_and, and_true, zbj, decide_true, decide_false, List.getElem?_cons_zero, List.getElem?_cons_succ, List.set_cons_zero, List.set_cons_succ]
    split
    · try simp (maxSteps := 4000000) (disch := decide) only [↓zdg, ↓zbx, ↓FL.then_nx, ↓FL.then_rt, ↓FL.then_bk, ↓FL.then_ct, ↓zbu, ↓zbv, ↓zcz, ↓zew, ↓zdc, ↓zex, ↓zdd, ↓zbw, ↓zev, ↓zeu, ↓zet, ↓zcy, ↓zda, ↓zdb, ↓zde, ↓zey, ↓zes, ↓zbi, ↓zfx, ↓zfy, ↓zci, ↓zcj, ↓zfp, ↓zbh, ↓zfh, ↓zfn, ↓zga, ↓zfl, ↓zdp, ↓zdo, ↓zfm, ↓zff, ↓zfk, ↓zgc, ↓zfd, ↓zgd, ↓zfq, ↓or1, ↓and2, ↓or2, ↓zdr, ↓zfs, ↓zds, ↓zft, ↓zfg, ↓zeg, ↓zcr, ↓zfo, ↓zfj, ↓zgb, ↓zfr, ↓zer, ↓zbk, ↓zge, ↓zfz, ↓zfi, ↓zdm, ↓zfe, ↓zdn, ↓zca, ↓zcb, ↓zfa, ↓zfv, ↓zez, ↓zfw, ↓zfc, ↓zfu, ↓zfb, ↓zdj, ↓zcd, ↓zdk, ↓zbl, ↓zdy, ↓zcf, ↓zdz, ↓zcg, ↓zch, ↓zbz, ↓zcc, ↓zdi, ↓zei, ↓zeh, ↓zdx, ↓zdw, ↓zdu, ↓zdq, ↓zea, ↓zcs, ↓zct, ↓zen, ↓zbg, ↓zcv, ↓zcu, ↓zcx, ↓zce, ↓reduceIte, and_self, ↓zbt, ↓zcq, ↓zbs, ↓zbm, ↓zdl, ↓zdf, ↓zby, ↓zec, ↓zed, ↓zee, ↓zef, ↓zdv, ↓zdt, ↓zem, ↓zek, ↓zel, ↓zej, ↓zcl, ↓zeb, ↓zck, ↓zcn, ↓zco, ↓zcm, ↓zbo, ↓zcp, ↓zbn, ↓zbq, ↓zbr, ↓zbp, ↓zal, ↓zak, ↓zai, ↓zba, ↓zaj, ↓zax, ↓zaw, ↓zau, ↓zbe, ↓zav, ↓zad, ↓zac, ↓zaa, ↓zay, ↓zab, ↓zap, ↓zao, ↓zam, ↓zbb, ↓zan, ↓zat, ↓zas, ↓zaq, ↓zbc, ↓zar, ↓zah, ↓zag, ↓zae, ↓zaz, ↓zaf, Bool.not_true, Bool.not_false, Bool.false_eq_true, zbf, zbd, ↓sl0, ↓sl1, ↓sl2, ↓sl3, ↓sl4, ↓sl5, ↓sl6, ↓sl7, ↓sl8, true_and, and_true, zbj, decide_true, decide_false, List.getElem?_cons_zero, List.getElem?_cons_succ, List.set_cons_zero, List.set_cons_succ]
      have c1 := cl (lo := none) (hi := some v)
      have c2 := cl (lo := some v) (hi := none)
      refine (add_tt (sz (by simp; omega))).mpr ((add_tt (sz (by simp; omega))).mpr ?_)
      exact spoF_of (cat_te (cat_te cm (one ⟨e1, rfl⟩)) cm) (by simp; omega) T3 F3
    · try simp (maxSteps := 4000000) (disch := decide) only [↓zdg, ↓zbx, ↓FL.then_nx, ↓FL.then_rt, ↓FL.then_bk, ↓FL.then_ct, ↓zbu, ↓zbv, ↓zcz, ↓zew, ↓zdc, ↓zex, ↓zdd, ↓zbw, ↓zev, ↓zeu, ↓zet, ↓zcy, ↓zda, ↓zdb, ↓zde, ↓zey, ↓zes, ↓zbi, ↓zfx, ↓zfy, ↓zci, ↓zcj, ↓zfp, ↓zbh, ↓zfh, ↓zfn, ↓zga, ↓zfl, ↓zdp, ↓zdo, ↓zfm, ↓zff, ↓zfk, ↓zgc, ↓zfd, ↓zgd, ↓zfq, ↓or1, ↓and2, ↓or2, ↓zdr, ↓zfs, ↓zds, ↓zft, ↓zfg, ↓zeg, ↓zcr, ↓zfo, ↓zfj, ↓zgb, ↓zfr, ↓zer, ↓zbk, ↓zge, ↓zfz, ↓zfi, ↓zdm, ↓zfe, ↓zdn, ↓zca, ↓zcb, ↓zfa, ↓zfv, ↓zez, ↓zfw, ↓zfc, ↓zfu, ↓zfb, ↓zdj, ↓zcd, ↓zdk, ↓zbl, ↓zdy, ↓zcf, ↓zdz, ↓zcg, ↓zch, ↓zbz, ↓zcc, ↓zdi, ↓zei, ↓zeh, ↓zdx, ↓zdw, ↓zdu, ↓zdq, ↓zea, ↓zcs, ↓zct, ↓zen, ↓zbg, ↓zcv, ↓zcu, ↓zcx, ↓zce, ↓reduceIte, and_self, ↓zbt, ↓zcq, ↓zbs, ↓zbm, ↓zdl, ↓zdf, ↓zby, ↓zec, ↓zed, ↓zee, ↓zef, ↓zdv, ↓zdt, ↓zem, ↓zek, ↓zel, ↓zej, ↓zcl, ↓zeb, ↓zck, ↓zcn, ↓zco, ↓zcm, ↓zbo, ↓zcp, ↓zbn, ↓zbq, ↓zbr, ↓zbp, ↓zal, ↓zak, ↓zai, ↓zba, ↓zaj, ↓zax, ↓zaw, ↓zau, ↓zbe, ↓zav, ↓zad, ↓zac, ↓zaa, ↓zay, ↓zab, ↓zap, ↓zao, ↓zam, ↓zbb, ↓zan, ↓zat, ↓zas, ↓zaq, ↓zbc, ↓zar, ↓zah, ↓zag, ↓zae, ↓zaz, ↓zaf, Bool.not_true, Bool.not_false, Bool.false_eq_true, zbf, zbd, ↓sl0, ↓sl1, ↓sl2, ↓sl3, ↓sl4, ↓sl5, ↓sl6, ↓sl7, ↓sl8, true_and, and_true, zbj, decide_true, decide_false, List.getElem?_cons_zero, List.getElem?_cons_succ, List.set_cons_zero, List.set_cons_succ]
      have c1 := cl (lo := none) (hi := some v)
      have c2 := cl (lo := some (v + 1)) (hi := some (v + 2))
      have c3 := cl (lo := some (v + 2)) (hi := none)
      refine (add_tt (sz (by omega))).mpr ((add_tt (sz (by simp; omega))).mpr ((add_tt (sz (by simp; omega))).mpr ?_))
      exact spoF_of (cat_te (cat_te (cat_te cm cm) (one ⟨e1, rfl⟩)) cm) (by simp; omega) T3 F3
end DL

set_option Elab.async false
set_option linter.all false
set_option maxRecDepth 100000
set_option maxHeartbeats 8000000
namespace DL
open PySem PySem.Spec PyProof.Rows L2
theorem vd_kD (n : Nat) (k : Key) : Vd n (kD k) := by cases k <;> first | exact .int _ _ | exact .str _ _
theorem vd_te (n : Nat) (e : TEl) : Vd (n + 1) (teD e) := by
  cases e with
  | sc k => exact vd_kD _ k
  | pr a b =>
    refine .tup _ _ (by simp) fun d hd => ?_
    simp only [List.mem_cons, List.not_mem_nil, or_false] at hd
    rcases hd with rfl | rfl <;> exact vd_kD _ _
theorem vd_l2 {n : Nat} {a b : D} (h1 : Vd n a) (h2 : Vd n b) : Vd (n + 1) (.tup [a, b]) := .tup _ _ (by simp) fun d hd => by
  simp only [List.mem_cons, List.not_mem_nil, or_false] at hd
  rcases hd with rfl | rfl <;> assumption
theorem vd_map {α : Type} {n : Nat} {f : α → D} {l : List α} (hl : l.length ≤ 100000) (h : ∀ a, Vd n (f a)) : Vd (n + 1) (.tup (l.map f)) := .tup _ _ (by rw [List.length_map]; exact hl) fun d hd => by
  obtain ⟨a, _, rfl⟩ := List.mem_map.mp hd
  exact h a
theorem vd_pr (n : Nat) (p : Key × Key) : Vd (n + 1) (prD p) := vd_l2 (vd_kD _ _) (vd_kD _ _)
theorem vd_qi (n : Nat) (p : Int × Key) : Vd (n + 1) (qiD p) := vd_l2 (.int _ _) (vd_kD _ _)
theorem vd_ip (n : Nat) (p : Int × Int) : Vd (n + 1) (ipD p) := vd_l2 (.int _ _) (.int _ _)
theorem vd_up {n : Nat} {d : D} (h : Vd n d) : Vd (n + 1) d := by
  induction h with
  | bl n b => exact .bl _ _
  | non n => exact .non _
  | int n i => exact .int _ _
  | str n x => exact .str _ _
  | tup n ds hl h ih => exact .tup _ _ hl ih
/-- a made collection -/
def MadeD (d : D) : Prop := ∃ es : List TEl, d = .tup (es.map teD) ∧ es.length ≤ 60000
theorem made_of {α : Type} {f : α → D} {g : α → TEl} {l : List α} (h : ∀ a, f a = teD (g a)) (hl : l.length ≤ 60000) : MadeD (.tup (l.map f)) :=
  ⟨l.map g, by rw [List.map_map]; congr 1; exact List.map_congr_left fun a _ => h a, by rw [List.length_map]; exact hl⟩
noncomputable def vb (es : List TEl) (kd : Kd) : Bool := open Classical in decide (validP kd es)
theorem vb_of {es : List TEl} {kd : Kd} {b : Bool} (h : b = true ↔ validP kd es) : b = vb es kd := by
  unfold vb
  by_cases v : validP kd es
  · rw [h.mpr v]; simp [v]
  · cases b with
    | true => exact absurd (h.mp rfl) v
    | false => simp [v]
def kds : List Kd := [.seq, .map, .que, .ivl]
theorem lawMain {ns : List Int} {d : D} {h : Hd} (hn : ns.length ≤ 63) (S : ScriptD (ns.map D.int) d h) : (fF32 [d] h).sat fun r _ => r = .bl true := by
  refine runP_v (σ := [some (d), none, none, none, none, none, none, none, none, none, none, none, none, none, none, none, none]) (by rfl) (by rfl) ?_
  unfold bB32
  try simp (maxSteps := 4000000) (disch := decide) only [↓zdg, ↓zdh, ↓zcw, ↓zeq, ↓zeo, ↓zep, ↓zbu, ↓zbv, ↓zcz, ↓zew, ↓zdc, ↓zex, ↓zdd, ↓zbw, ↓zev, ↓zeu, ↓zet, ↓zcy, ↓zda, ↓zdb, ↓zde, ↓zey, ↓zes, ↓zbi, ↓zfx, ↓zfy, ↓zci, ↓zcj, ↓zfp, ↓zbh, ↓zfh, ↓zfn, ↓zga, ↓zfl, ↓zdp, ↓zdo, ↓zfm, ↓zff, ↓zfk, ↓zgc, ↓zfd, ↓zgd, ↓zfq, ↓or1, ↓and2, ↓or2, ↓zdr, ↓zfs, ↓zds, ↓zft, ↓zfg, ↓zeg, ↓zcr, ↓zfo, ↓zfj, ↓zgb, ↓zfr, ↓zer, ↓zbk, ↓zge, ↓zfz, ↓zfi, ↓zdm, ↓zfe, ↓zdn, ↓zca, ↓zcb, ↓zfa, ↓zfv, ↓zez, ↓zfw, ↓zfc, ↓zfu, ↓zfb, ↓zdj, ↓zcd, ↓zdk, ↓zbl, ↓zdy, ↓zcf, ↓zdz, ↓zcg, ↓zch, ↓zbz, ↓zcc, ↓zdi, ↓zei, ↓zeh, ↓zdx, ↓zdw, ↓zdu, ↓zdq, ↓zea, ↓zcs, ↓zct, ↓zen, ↓zbg, ↓zcv, ↓zcu, ↓zcx, ↓zce, ↓reduceIte, and_self, ↓zbt, ↓zcq, ↓zbs, ↓zbm, ↓zdl, ↓zdf, ↓zby, ↓zec, ↓zed, ↓zee, ↓zef, ↓zdv, ↓zdt, ↓zem, ↓zek, ↓zel, ↓zej, ↓zcl, ↓zeb, ↓zck, ↓zcn, ↓zco, ↓zcm, ↓zbo, ↓zcp, ↓zbn, ↓zbq, ↓zbr, ↓zbp, ↓zal, ↓zak, ↓zai, ↓zba, ↓zaj, ↓zax, ↓zaw, ↓zau, ↓zbe, ↓zav, ↓zad, ↓zac, ↓zaa, ↓zay, ↓zab, ↓zap, ↓zao, ↓zam, ↓zbb, ↓zan, ↓zat, ↓zas, ↓zaq, ↓zbc, ↓zar, ↓zah, ↓zag, ↓zae, ↓zaz, ↓zaf, Bool.not_true, Bool.not_false, Bool.false_eq_true, zbf, zbd, ↓sl0, ↓sl1, ↓sl2, ↓sl3, ↓sl4, ↓sl5, ↓sl6, ↓sl7, ↓sl8, true_and, and_true, zbj, decide_true, decide_false, List.getElem?_cons_zero, List.getElem?_cons_succ, List.set_cons_zero, List.set_cons_succ, tt32_30, tt32_15, tt32_29, tt32_12, tt32_31, tt32_14, tt32_27, tt32_26, tt32_23, tt32_22, tt32_25, tt32_24, tt32_16, tt32_21, tt32_19, tt32_18, tt32_13]
  repeat (refine nx_nx.mpr ?_; simp (maxSteps := 4000000) (disch := decide) only [↓zdg, ↓zdh, ↓zcw, ↓zeq, ↓zeo, ↓zep, ↓zbu, ↓zbv, ↓zcz, ↓zew, ↓zdc, ↓zex, ↓zdd, ↓zbw, ↓zev, ↓zeu, ↓zet, ↓zcy, ↓zda, ↓zdb, ↓zde, ↓zey, ↓zes, ↓zbi, ↓zfx, ↓zfy, ↓zci, ↓zcj, ↓zfp, ↓zbh, ↓zfh, ↓zfn, ↓zga, ↓zfl, ↓zdp, ↓zdo, ↓zfm, ↓zff, ↓zfk, ↓zgc, ↓zfd, ↓zgd, ↓zfq, ↓or1, ↓and2, ↓or2, ↓zdr, ↓zfs, ↓zds, ↓zft, ↓zfg, ↓zeg, ↓zcr, ↓zfo, ↓zfj, ↓zgb, ↓zfr, ↓zer, ↓zbk, ↓zge, ↓zfz, ↓zfi, ↓zdm, ↓zfe, ↓zdn, ↓zca, ↓zcb, ↓zfa, ↓zfv, ↓zez, ↓zfw, ↓zfc, ↓zfu, ↓zfb, ↓zdj, ↓zcd, ↓zdk, ↓zbl, ↓zdy, ↓zcf, ↓zdz, ↓zcg, ↓zch, ↓zbz, ↓zcc, ↓zdi, ↓zei, ↓zeh, ↓zdx, ↓zdw, ↓zdu, ↓zdq, ↓zea, ↓zcs, ↓zct, ↓zen, ↓zbg, ↓zcv, ↓zcu, ↓zcx, ↓zce, ↓reduceIte, and_self, ↓zbt, ↓zcq, ↓zbs, ↓zbm, ↓zdl, ↓zdf, ↓zby, ↓zec, ↓zed, ↓zee, ↓zef, ↓zdv, ↓zdt, ↓zem, ↓zek, ↓zel, ↓zej, ↓zcl, ↓zeb, ↓zck, ↓zcn, ↓zco, ↓zcm, ↓zbo, ↓zcp, ↓zbn, ↓zbq, ↓zbr, ↓zbp, ↓zal, ↓zak, ↓zai, ↓zba, ↓zaj, ↓zax, ↓zaw, ↓zau, ↓zbe, ↓zav, ↓zad, ↓zac, ↓zaa, ↓zay, ↓zab, ↓zap, ↓zao, ↓zam, ↓zbb, ↓zan, ↓zat, ↓zas, ↓zaq, ↓zbc, ↓zar, ↓zah, ↓zag, ↓zae, ↓zaz, ↓zaf, Bool.not_true, Bool.not_false, Bool.false_eq_true, zbf, zbd, ↓sl0, ↓sl1, ↓sl2, ↓sl3, ↓sl4, ↓sl5, ↓sl6, ↓sl7, ↓sl8, true_and, and_true, zbj, decide_true, decide_false, List.getElem?_cons_zero, List.getElem?_cons_succ, List.set_cons_zero, List.set_cons_succ, tt32_30, tt32_15, tt32_29, tt32_12, tt32_31, tt32_14, tt32_27, tt32_26, tt32_23, tt32_22, tt32_25, tt32_24, tt32_16, tt32_21, tt32_19, tt32_18, tt32_13])
  refine vC.mono (tape_sat hn S) fun r h1 ⟨t, er, T1⟩ => ?_
  subst er
  try simp (maxSteps := 4000000) (disch := decide) only [↓zdg, ↓zdh, ↓zcw, ↓zeq, ↓zeo, ↓zep, ↓zbu, ↓zbv, ↓zcz, ↓zew, ↓zdc, ↓zex, ↓zdd, ↓zbw, ↓zev, ↓zeu, ↓zet, ↓zcy, ↓zda, ↓zdb, ↓zde, ↓zey, ↓zes, ↓zbi, ↓zfx, ↓zfy, ↓zci, ↓zcj, ↓zfp, ↓zbh, ↓zfh, ↓zfn, ↓zga, ↓zfl, ↓zdp, ↓zdo, ↓zfm, ↓zff, ↓zfk, ↓zgc, ↓zfd, ↓zgd, ↓zfq, ↓or1, ↓and2, ↓or2, ↓zdr, ↓zfs, ↓zds, ↓zft, ↓zfg, ↓zeg, ↓zcr, ↓zfo, ↓zfj, ↓zgb, ↓zfr, ↓zer, ↓zbk, ↓zge, ↓zfz, ↓zfi, ↓zdm, ↓zfe, ↓zdn, ↓zca, ↓zcb, ↓zfa, ↓zfv, ↓zez, ↓zfw, ↓zfc, ↓zfu, ↓zfb, ↓zdj, ↓zcd, ↓zdk, ↓zbl, ↓zdy, ↓zcf, ↓zdz, ↓zcg, ↓zch, ↓zbz, ↓zcc, ↓zdi, ↓zei, ↓zeh, ↓zdx, ↓zdw, ↓zdu, ↓zdq, ↓zea, ↓zcs, ↓zct, ↓zen, ↓zbg, ↓zcv, ↓zcu, ↓zcx, ↓zce, ↓reduceIte, and_self, ↓zbt, ↓zcq, ↓zbs, ↓zbm, ↓zdl, ↓zdf, ↓zby, ↓zec, ↓zed, ↓zee, ↓zef, ↓zdv, ↓zdt, ↓zem, ↓zek, ↓zel, ↓zej, ↓zcl, ↓zeb, ↓zck, ↓zcn, ↓zco, ↓zcm, ↓zbo, ↓zcp, ↓zbn, ↓zbq, ↓zbr, ↓zbp, ↓zal, ↓zak, ↓zai, ↓zba, ↓zaj, ↓zax, ↓zaw, ↓zau, ↓zbe, ↓zav, ↓zad, ↓zac, ↓zaa, ↓zay, ↓zab, ↓zap, ↓zao, ↓zam, ↓zbb, ↓zan, ↓zat, ↓zas, ↓zaq, ↓zbc, ↓zar, ↓zah, ↓zag, ↓zae, ↓zaz, ↓zaf, Bool.not_true, Bool.not_false, Bool.false_eq_true, zbf, zbd, ↓sl0, ↓sl1, ↓sl2, ↓sl3, ↓sl4, ↓sl5, ↓sl6, ↓sl7, ↓sl8, true_and, and_true, zbj, decide_true, decide_false, List.getElem?_cons_zero, List.getElem?_cons_succ, List.set_cons_zero, List.set_cons_succ, tt32_30, tt32_15, tt32_29, tt32_12, tt32_31, tt32_14, tt32_27, tt32_26, tt32_23, tt32_22, tt32_25, tt32_24, tt32_16, tt32_21, tt32_19, tt32_18, tt32_13]
  repeat (refine nx_nx.mpr ?_; simp (maxSteps := 4000000) (disch := decide) only [↓zdg, ↓zdh, ↓zcw, ↓zeq, ↓zeo, ↓zep, ↓zbu, ↓zbv, ↓zcz, ↓zew, ↓zdc, ↓zex, ↓zdd, ↓zbw, ↓zev, ↓zeu, ↓zet, ↓zcy, ↓zda, ↓zdb, ↓zde, ↓zey, ↓zes, ↓zbi, ↓zfx, ↓zfy, ↓zci, ↓zcj, ↓zfp, ↓zbh, ↓zfh, ↓zfn, ↓zga, ↓zfl, ↓zdp, ↓zdo, ↓zfm, ↓zff, ↓zfk, ↓zgc, ↓zfd, ↓zgd, ↓zfq, ↓or1, ↓and2, ↓or2, ↓zdr, ↓zfs, ↓zds, ↓zft, ↓zfg, ↓zeg, ↓zcr, ↓zfo, ↓zfj, ↓zgb, ↓zfr, ↓zer, ↓zbk, ↓zge, ↓zfz, ↓zfi, ↓zdm, ↓zfe, ↓zdn, ↓zca, ↓zcb, ↓zfa, ↓zfv, ↓zez, ↓zfw, ↓zfc, ↓zfu, ↓zfb, ↓zdj, ↓zcd, ↓zdk, ↓zbl, ↓zdy, ↓zcf, ↓zdz, ↓zcg, ↓zch, ↓zbz, ↓zcc, ↓zdi, ↓zei, ↓zeh, ↓zdx, ↓zdw, ↓zdu, ↓zdq, ↓zea, ↓zcs, ↓zct, ↓zen, ↓zbg, ↓zcv, ↓zcu, ↓zcx, ↓zce, ↓reduceIte, and_self, ↓zbt, ↓zcq, ↓zbs, ↓zbm, ↓zdl, ↓zdf, ↓zby, ↓zec, ↓zed, ↓zee, ↓zef, ↓zdv, ↓zdt, ↓zem, ↓zek, ↓zel, ↓zej, ↓zcl, ↓zeb, ↓zck, ↓zcn, ↓zco, ↓zcm, ↓zbo, ↓zcp, ↓zbn, ↓zbq, ↓zbr, ↓zbp, ↓zal, ↓zak, ↓zai, ↓zba, ↓zaj, ↓zax, ↓zaw, ↓zau, ↓zbe, ↓zav, ↓zad, ↓zac, ↓zaa, ↓zay, ↓zab, ↓zap, ↓zao, ↓zam, ↓zbb, ↓zan, ↓zat, ↓zas, ↓zaq, ↓zbc, ↓zar, ↓zah, ↓zag, ↓zae, ↓zaz, ↓zaf, Bool.not_true, Bool.not_false, Bool.false_eq_true, zbf, zbd, ↓sl0, ↓sl1, ↓sl2, ↓sl3, ↓sl4, ↓sl5, ↓sl6, ↓sl7, ↓sl8, true_and, and_true, zbj, decide_true, decide_false, List.getElem?_cons_zero, List.getElem?_cons_succ, List.set_cons_zero, List.set_cons_succ, tt32_30, tt32_15, tt32_29, tt32_12, tt32_31, tt32_14, tt32_27, tt32_26, tt32_23, tt32_22, tt32_25, tt32_24, tt32_16, tt32_21, tt32_19, tt32_18, tt32_13])
  refine vC.mono (pool_sat T1) fun r h2 ⟨p, er, np, pl, T2, f2⟩ => ?_
  subst er
  try simp (maxSteps := 4000000) (disch := decide) only [↓zdg, ↓zdh, ↓zcw, ↓zeq, ↓zeo, ↓zep, ↓zbu, ↓zbv, ↓zcz, ↓zew, ↓zdc, ↓zex, ↓zdd, ↓zbw, ↓zev, ↓zeu, ↓zet, ↓zcy, ↓zda, ↓zdb, ↓zde, ↓zey, ↓zes, ↓zbi, ↓zfx, ↓zfy, ↓zci, ↓zcj, ↓zfp, ↓zbh, ↓zfh, ↓zfn, ↓zga, ↓zfl, ↓zdp, ↓zdo, ↓zfm, ↓zff, ↓zfk, ↓zgc, ↓zfd, ↓zgd, ↓zfq, ↓or1, ↓and2, ↓or2, ↓zdr, ↓zfs, ↓zds, ↓zft, ↓zfg, ↓zeg, ↓zcr, ↓zfo, ↓zfj, ↓zgb, ↓zfr, ↓zer, ↓zbk, ↓zge, ↓zfz, ↓zfi, ↓zdm, ↓zfe, ↓zdn, ↓zca, ↓zcb, ↓zfa, ↓zfv, ↓zez, ↓zfw, ↓zfc, ↓zfu, ↓zfb, ↓zdj, ↓zcd, ↓zdk, ↓zbl, ↓zdy, ↓zcf, ↓zdz, ↓zcg, ↓zch, ↓zbz, ↓zcc, ↓zdi, ↓zei, ↓zeh, ↓zdx, ↓zdw, ↓zdu, ↓zdq, ↓zea, ↓zcs, ↓zct, ↓zen, ↓zbg, ↓zcv, ↓zcu, ↓zcx, ↓zce, ↓reduceIte, and_self, ↓zbt, ↓zcq, ↓zbs, ↓zbm, ↓zdl, ↓zdf, ↓zby, ↓zec, ↓zed, ↓zee, ↓zef, ↓zdv, ↓zdt, ↓zem, ↓zek, ↓zel, ↓zej, ↓zcl, ↓zeb, ↓zck, ↓zcn, ↓zco, ↓zcm, ↓zbo, ↓zcp, ↓zbn, ↓zbq, ↓zbr, ↓zbp, ↓zal, ↓zak, ↓zai, ↓zba, ↓zaj, ↓zax, ↓zaw, ↓zau, ↓zbe, ↓zav, ↓zad, ↓zac, ↓zaa, ↓zay, ↓zab, ↓zap, ↓zao, ↓zam, ↓zbb, ↓zan, ↓zat, ↓zas, ↓zaq, ↓zbc, ↓zar, ↓zah, ↓zag, ↓zae, ↓zaz, ↓zaf, Bool.not_true, Bool.not_false, Bool.false_eq_true, zbf, zbd, ↓sl0, ↓sl1, ↓sl2, ↓sl3, ↓sl4, ↓sl5, ↓sl6, ↓sl7, ↓sl8, true_and, and_true, zbj, decide_true, decide_false, List.getElem?_cons_zero, List.getElem?_cons_succ, List.set_cons_zero, List.set_cons_succ, tt32_30, tt32_15, tt32_29, tt32_12, tt32_31, tt32_14, tt32_27, tt32_26, tt32_23, tt32_22, tt32_25, tt32_24, tt32_16, tt32_21, tt32_19, tt32_18, tt32_13]
  repeat (refine nx_nx.mpr ?_; simp (maxSteps := 4000000) (disch := decide) only [↓zdg, ↓zdh, ↓zcw, ↓zeq, ↓zeo, ↓zep, ↓zbu, ↓zbv, ↓zcz, ↓zew, ↓zdc, ↓zex, ↓zdd, ↓zbw, ↓zev, ↓zeu, ↓zet, ↓zcy, ↓zda, ↓zdb, ↓zde, ↓zey, ↓zes, ↓zbi, ↓zfx, ↓zfy, ↓zci, ↓zcj, ↓zfp, ↓zbh, ↓zfh, ↓zfn, ↓zga, ↓zfl, ↓zdp, ↓zdo, ↓zfm, ↓zff, ↓zfk, ↓zgc, ↓zfd, ↓zgd, ↓zfq, ↓or1, ↓and2, ↓or2, ↓zdr, ↓zfs, ↓zds, ↓zft, ↓zfg, ↓zeg, ↓zcr, ↓zfo, ↓zfj, ↓zgb, ↓zfr, ↓zer, ↓zbk, ↓zge, ↓zfz, ↓zfi, ↓zdm, ↓zfe, ↓zdn, ↓zca, ↓zcb, ↓zfa, ↓zfv, ↓zez, ↓zfw, ↓zfc, ↓zfu, ↓zfb, ↓zdj, ↓zcd, ↓zdk, ↓zbl, ↓zdy, ↓zcf, ↓zdz, ↓zcg, ↓zch, ↓zbz, ↓zcc, ↓zdi, ↓zei, ↓zeh, ↓zdx, ↓zdw, ↓zdu, ↓zdq, ↓zea, ↓zcs, ↓zct, ↓zen, ↓zbg, ↓zcv, ↓zcu, ↓zcx, ↓zce, ↓reduceIte, and_self, ↓zbt, ↓zcq, ↓zbs, ↓zbm, ↓zdl, ↓zdf, ↓zby, ↓zec, ↓zed, ↓zee, ↓zef, ↓zdv, ↓zdt, ↓zem, ↓zek, ↓zel, ↓zej, ↓zcl, ↓zeb, ↓zck, ↓zcn, ↓zco, ↓zcm, ↓zbo, ↓zcp, ↓zbn, ↓zbq, ↓zbr, ↓zbp, ↓zal, ↓zak, ↓zai, ↓zba, ↓zaj, ↓zax, ↓zaw, ↓zau, ↓zbe, ↓zav, ↓zad, ↓zac, ↓zaa, ↓zay, ↓zab, ↓zap, ↓zao, ↓zam, ↓zbb, ↓zan, ↓zat, ↓zas, ↓zaq, ↓zbc, ↓zar, ↓zah, ↓zag, ↓zae, ↓zaz, ↓zaf, Bool.not_true, Bool.not_false, Bool.false_eq_true, zbf, zbd, ↓sl0, ↓sl1, ↓sl2, ↓sl3, ↓sl4, ↓sl5, ↓sl6, ↓sl7, ↓sl8, true_and, and_true, zbj, decide_true, decide_false, List.getElem?_cons_zero, List.getElem?_cons_succ, List.set_cons_zero, List.set_cons_succ, tt32_30, tt32_15, tt32_29, tt32_12, tt32_31, tt32_14, tt32_27, tt32_26, tt32_23, tt32_22, tt32_25, tt32_24, tt32_16, tt32_21, tt32_19, tt32_18, tt32_13])
  refine vC.mono (contents_sat T2 np pl (by decide) (by decide)) fun r h3 ⟨⟨ds, er, hl, hel⟩, T3, f3⟩ => ?_
  subst er
  obtain ⟨rs, rfl, lrs⟩ := isTe_all fun x hx => (hel x hx).te
  have lr : rs.length ≤ 9 := by rw [List.length_map] at hl; omega
  clear hel
  try simp (maxSteps := 4000000) (disch := decide) only [↓zdg, ↓zdh, ↓zcw, ↓zeq, ↓zeo, ↓zep, ↓zbu, ↓zbv, ↓zcz, ↓zew, ↓zdc, ↓zex, ↓zdd, ↓zbw, ↓zev, ↓zeu, ↓zet, ↓zcy, ↓zda, ↓zdb, ↓zde, ↓zey, ↓zes, ↓zbi, ↓zfx, ↓zfy, ↓zci, ↓zcj, ↓zfp, ↓zbh, ↓zfh, ↓zfn, ↓zga, ↓zfl, ↓zdp, ↓zdo, ↓zfm, ↓zff, ↓zfk, ↓zgc, ↓zfd, ↓zgd, ↓zfq, ↓or1, ↓and2, ↓or2, ↓zdr, ↓zfs, ↓zds, ↓zft, ↓zfg, ↓zeg, ↓zcr, ↓zfo, ↓zfj, ↓zgb, ↓zfr, ↓zer, ↓zbk, ↓zge, ↓zfz, ↓zfi, ↓zdm, ↓zfe, ↓zdn, ↓zca, ↓zcb, ↓zfa, ↓zfv, ↓zez, ↓zfw, ↓zfc, ↓zfu, ↓zfb, ↓zdj, ↓zcd, ↓zdk, ↓zbl, ↓zdy, ↓zcf, ↓zdz, ↓zcg, ↓zch, ↓zbz, ↓zcc, ↓zdi, ↓zei, ↓zeh, ↓zdx, ↓zdw, ↓zdu, ↓zdq, ↓zea, ↓zcs, ↓zct, ↓zen, ↓zbg, ↓zcv, ↓zcu, ↓zcx, ↓zce, ↓reduceIte, and_self, ↓zbt, ↓zcq, ↓zbs, ↓zbm, ↓zdl, ↓zdf, ↓zby, ↓zec, ↓zed, ↓zee, ↓zef, ↓zdv, ↓zdt, ↓zem, ↓zek, ↓zel, ↓zej, ↓zcl, ↓zeb, ↓zck, ↓zcn, ↓zco, ↓zcm, ↓zbo, ↓zcp, ↓zbn, ↓zbq, ↓zbr, ↓zbp, ↓zal, ↓zak, ↓zai, ↓zba, ↓zaj, ↓zax, ↓zaw, ↓zau, ↓zbe, ↓zav, ↓zad, ↓zac, ↓zaa, ↓zay, ↓zab, ↓zap, ↓zao, ↓zam, ↓zbb, ↓zan, ↓zat, ↓zas, ↓zaq, ↓zbc, ↓zar, ↓zah, ↓zag, ↓zae, ↓zaz, ↓zaf, Bool.not_true, Bool.not_false, Bool.false_eq_true, zbf, zbd, ↓sl0, ↓sl1, ↓sl2, ↓sl3, ↓sl4, ↓sl5, ↓sl6, ↓sl7, ↓sl8, true_and, and_true, zbj, decide_true, decide_false, List.getElem?_cons_zero, List.getElem?_cons_succ, List.set_cons_zero, List.set_cons_succ, tt32_30, tt32_15, tt32_29, tt32_12, tt32_31, tt32_14, tt32_27, tt32_26, tt32_23, tt32_22, tt32_25, tt32_24, tt32_16, tt32_21, tt32_19, tt32_18, tt32_13]
  repeat (refine nx_nx.mpr ?_; simp (maxSteps := 4000000) (disch := decide) only [↓zdg, ↓zdh, ↓zcw, ↓zeq, ↓zeo, ↓zep, ↓zbu, ↓zbv, ↓zcz, ↓zew, ↓zdc, ↓zex, ↓zdd, ↓zbw, ↓zev, ↓zeu, ↓zet, ↓zcy, ↓zda, ↓zdb, ↓zde, ↓zey, ↓zes, ↓zbi, ↓zfx, ↓zfy, ↓zci, ↓zcj, ↓zfp, ↓zbh, ↓zfh, ↓zfn, ↓zga, ↓zfl, ↓zdp, ↓zdo, ↓zfm, ↓zff, ↓zfk, ↓zgc, ↓zfd, ↓zgd, ↓zfq, ↓or1, ↓and2, ↓or2, ↓zdr, ↓zfs, ↓zds, ↓zft, ↓zfg, ↓zeg, ↓zcr, ↓zfo, ↓zfj, ↓zgb, ↓zfr, ↓zer, ↓zbk, ↓zge, ↓zfz, ↓zfi, ↓zdm, ↓zfe, ↓zdn, ↓zca, ↓zcb, ↓zfa, ↓zfv, ↓zez, ↓zfw, ↓zfc, ↓zfu, ↓zfb, ↓zdj, ↓zcd, ↓zdk, ↓zbl, ↓zdy, ↓zcf, ↓zdz, ↓zcg, ↓zch, ↓zbz, ↓zcc, ↓zdi, ↓zei, ↓zeh, ↓zdx, ↓zdw, ↓zdu, ↓zdq, ↓zea, ↓zcs, ↓zct, ↓zen, ↓zbg, ↓zcv, ↓zcu, ↓zcx, ↓zce, ↓reduceIte, and_self, ↓zbt, ↓zcq, ↓zbs, ↓zbm, ↓zdl, ↓zdf, ↓zby, ↓zec, ↓zed, ↓zee, ↓zef, ↓zdv, ↓zdt, ↓zem, ↓zek, ↓zel, ↓zej, ↓zcl, ↓zeb, ↓zck, ↓zcn, ↓zco, ↓zcm, ↓zbo, ↓zcp, ↓zbn, ↓zbq, ↓zbr, ↓zbp, ↓zal, ↓zak, ↓zai, ↓zba, ↓zaj, ↓zax, ↓zaw, ↓zau, ↓zbe, ↓zav, ↓zad, ↓zac, ↓zaa, ↓zay, ↓zab, ↓zap, ↓zao, ↓zam, ↓zbb, ↓zan, ↓zat, ↓zas, ↓zaq, ↓zbc, ↓zar, ↓zah, ↓zag, ↓zae, ↓zaz, ↓zaf, Bool.not_true, Bool.not_false, Bool.false_eq_true, zbf, zbd, ↓sl0, ↓sl1, ↓sl2, ↓sl3, ↓sl4, ↓sl5, ↓sl6, ↓sl7, ↓sl8, true_and, and_true, zbj, decide_true, decide_false, List.getElem?_cons_zero, List.getElem?_cons_succ, List.set_cons_zero, List.set_cons_succ, tt32_30, tt32_15, tt32_29, tt32_12, tt32_31, tt32_14, tt32_27, tt32_26, tt32_23, tt32_22, tt32_25, tt32_24, tt32_16, tt32_21, tt32_19, tt32_18, tt32_13])
  refine told_v (k := .str "sequence") (v := .tup (rs.map teD)) (fun {E P} q => contents_seq (q h3 .refl)) fun h4 k4 => ?_
  try simp (maxSteps := 4000000) (disch := decide) only [↓zdg, ↓zdh, ↓zcw, ↓zeq, ↓zeo, ↓zep, ↓zbu, ↓zbv, ↓zcz, ↓zew, ↓zdc, ↓zex, ↓zdd, ↓zbw, ↓zev, ↓zeu, ↓zet, ↓zcy, ↓zda, ↓zdb, ↓zde, ↓zey, ↓zes, ↓zbi, ↓zfx, ↓zfy, ↓zci, ↓zcj, ↓zfp, ↓zbh, ↓zfh, ↓zfn, ↓zga, ↓zfl, ↓zdp, ↓zdo, ↓zfm, ↓zff, ↓zfk, ↓zgc, ↓zfd, ↓zgd, ↓zfq, ↓or1, ↓and2, ↓or2, ↓zdr, ↓zfs, ↓zds, ↓zft, ↓zfg, ↓zeg, ↓zcr, ↓zfo, ↓zfj, ↓zgb, ↓zfr, ↓zer, ↓zbk, ↓zge, ↓zfz, ↓zfi, ↓zdm, ↓zfe, ↓zdn, ↓zca, ↓zcb, ↓zfa, ↓zfv, ↓zez, ↓zfw, ↓zfc, ↓zfu, ↓zfb, ↓zdj, ↓zcd, ↓zdk, ↓zbl, ↓zdy, ↓zcf, ↓zdz, ↓zcg, ↓zch, ↓zbz, ↓zcc, ↓zdi, ↓zei, ↓zeh, ↓zdx, ↓zdw, ↓zdu, ↓zdq, ↓zea, ↓zcs, ↓zct, ↓zen, ↓zbg, ↓zcv, ↓zcu, ↓zcx, ↓zce, ↓reduceIte, and_self, ↓zbt, ↓zcq, ↓zbs, ↓zbm, ↓zdl, ↓zdf, ↓zby, ↓zec, ↓zed, ↓zee, ↓zef, ↓zdv, ↓zdt, ↓zem, ↓zek, ↓zel, ↓zej, ↓zcl, ↓zeb, ↓zck, ↓zcn, ↓zco, ↓zcm, ↓zbo, ↓zcp, ↓zbn, ↓zbq, ↓zbr, ↓zbp, ↓zal, ↓zak, ↓zai, ↓zba, ↓zaj, ↓zax, ↓zaw, ↓zau, ↓zbe, ↓zav, ↓zad, ↓zac, ↓zaa, ↓zay, ↓zab, ↓zap, ↓zao, ↓zam, ↓zbb, ↓zan, ↓zat, ↓zas, ↓zaq, ↓zbc, ↓zar, ↓zah, ↓zag, ↓zae, ↓zaz, ↓zaf, Bool.not_true, Bool.not_false, Bool.false_eq_true, zbf, zbd, ↓sl0, ↓sl1, ↓sl2, ↓sl3, ↓sl4, ↓sl5, ↓sl6, ↓sl7, ↓sl8, true_and, and_true, zbj, decide_true, decide_false, List.getElem?_cons_zero, List.getElem?_cons_succ, List.set_cons_zero, List.set_cons_succ, tt32_30, tt32_15, tt32_29, tt32_12, tt32_31, tt32_14, tt32_27, tt32_26, tt32_23, tt32_22, tt32_25, tt32_24, tt32_16, tt32_21, tt32_19, tt32_18, tt32_13]
  refine alike_v (vd_l2 (.str _ _) (vd_map (by omega) fun a => vd_te _ a)) fun h5 k5 => ?_
  have T5 := (T3.kp k4).kp k5
  try simp (maxSteps := 4000000) (disch := decide) only [↓zdg, ↓zdh, ↓zcw, ↓zeq, ↓zeo, ↓zep, ↓zbu, ↓zbv, ↓zcz, ↓zew, ↓zdc, ↓zex, ↓zdd, ↓zbw, ↓zev, ↓zeu, ↓zet, ↓zcy, ↓zda, ↓zdb, ↓zde, ↓zey, ↓zes, ↓zbi, ↓zfx, ↓zfy, ↓zci, ↓zcj, ↓zfp, ↓zbh, ↓zfh, ↓zfn, ↓zga, ↓zfl, ↓zdp, ↓zdo, ↓zfm, ↓zff, ↓zfk, ↓zgc, ↓zfd, ↓zgd, ↓zfq, ↓or1, ↓and2, ↓or2, ↓zdr, ↓zfs, ↓zds, ↓zft, ↓zfg, ↓zeg, ↓zcr, ↓zfo, ↓zfj, ↓zgb, ↓zfr, ↓zer, ↓zbk, ↓zge, ↓zfz, ↓zfi, ↓zdm, ↓zfe, ↓zdn, ↓zca, ↓zcb, ↓zfa, ↓zfv, ↓zez, ↓zfw, ↓zfc, ↓zfu, ↓zfb, ↓zdj, ↓zcd, ↓zdk, ↓zbl, ↓zdy, ↓zcf, ↓zdz, ↓zcg, ↓zch, ↓zbz, ↓zcc, ↓zdi, ↓zei, ↓zeh, ↓zdx, ↓zdw, ↓zdu, ↓zdq, ↓zea, ↓zcs, ↓zct, ↓zen, ↓zbg, ↓zcv, ↓zcu, ↓zcx, ↓zce, ↓reduceIte, and_self, ↓zbt, ↓zcq, ↓zbs, ↓zbm, ↓zdl, ↓zdf, ↓zby, ↓zec, ↓zed, ↓zee, ↓zef, ↓zdv, ↓zdt, ↓zem, ↓zek, ↓zel, ↓zej, ↓zcl, ↓zeb, ↓zck, ↓zcn, ↓zco, ↓zcm, ↓zbo, ↓zcp, ↓zbn, ↓zbq, ↓zbr, ↓zbp, ↓zal, ↓zak, ↓zai, ↓zba, ↓zaj, ↓zax, ↓zaw, ↓zau, ↓zbe, ↓zav, ↓zad, ↓zac, ↓zaa, ↓zay, ↓zab, ↓zap, ↓zao, ↓zam, ↓zbb, ↓zan, ↓zat, ↓zas, ↓zaq, ↓zbc, ↓zar, ↓zah, ↓zag, ↓zae, ↓zaz, ↓zaf, Bool.not_true, Bool.not_false, Bool.false_eq_true, zbf, zbd, ↓sl0, ↓sl1, ↓sl2, ↓sl3, ↓sl4, ↓sl5, ↓sl6, ↓sl7, ↓sl8, true_and, and_true, zbj, decide_true, decide_false, List.getElem?_cons_zero, List.getElem?_cons_succ, List.set_cons_zero, List.set_cons_succ, tt32_30, tt32_15, tt32_29, tt32_12, tt32_31, tt32_14, tt32_27, tt32_26, tt32_23, tt32_22, tt32_25, tt32_24, tt32_16, tt32_21, tt32_19, tt32_18, tt32_13]
  repeat (refine nx_nx.mpr ?_; simp (maxSteps := 4000000) (disch := decide) only [↓zdg, ↓zdh, ↓zcw, ↓zeq, ↓zeo, ↓zep, ↓zbu, ↓zbv, ↓zcz, ↓zew, ↓zdc, ↓zex, ↓zdd, ↓zbw, ↓zev, ↓zeu, ↓zet, ↓zcy, ↓zda, ↓zdb, ↓zde, ↓zey, ↓zes, ↓zbi, ↓zfx, ↓zfy, ↓zci, ↓zcj, ↓zfp, ↓zbh, ↓zfh, ↓zfn, ↓zga, ↓zfl, ↓zdp, ↓zdo, ↓zfm, ↓zff, ↓zfk, ↓zgc, ↓zfd, ↓zgd, ↓zfq, ↓or1, ↓and2, ↓or2, ↓zdr, ↓zfs, ↓zds, ↓zft, ↓zfg, ↓zeg, ↓zcr, ↓zfo, ↓zfj, ↓zgb, ↓zfr, ↓zer, ↓zbk, ↓zge, ↓zfz, ↓zfi, ↓zdm, ↓zfe, ↓zdn, ↓zca, ↓zcb, ↓zfa, ↓zfv, ↓zez, ↓zfw, ↓zfc, ↓zfu, ↓zfb, ↓zdj, ↓zcd, ↓zdk, ↓zbl, ↓zdy, ↓zcf, ↓zdz, ↓zcg, ↓zch, ↓zbz, ↓zcc, ↓zdi, ↓zei, ↓zeh, ↓zdx, ↓zdw, ↓zdu, ↓zdq, ↓zea, ↓zcs, ↓zct, ↓zen, ↓zbg, ↓zcv, ↓zcu, ↓zcx, ↓zce, ↓reduceIte, and_self, ↓zbt, ↓zcq, ↓zbs, ↓zbm, ↓zdl, ↓zdf, ↓zby, ↓zec, ↓zed, ↓zee, ↓zef, ↓zdv, ↓zdt, ↓zem, ↓zek, ↓zel, ↓zej, ↓zcl, ↓zeb, ↓zck, ↓zcn, ↓zco, ↓zcm, ↓zbo, ↓zcp, ↓zbn, ↓zbq, ↓zbr, ↓zbp, ↓zal, ↓zak, ↓zai, ↓zba, ↓zaj, ↓zax, ↓zaw, ↓zau, ↓zbe, ↓zav, ↓zad, ↓zac, ↓zaa, ↓zay, ↓zab, ↓zap, ↓zao, ↓zam, ↓zbb, ↓zan, ↓zat, ↓zas, ↓zaq, ↓zbc, ↓zar, ↓zah, ↓zag, ↓zae, ↓zaz, ↓zaf, Bool.not_true, Bool.not_false, Bool.false_eq_true, zbf, zbd, ↓sl0, ↓sl1, ↓sl2, ↓sl3, ↓sl4, ↓sl5, ↓sl6, ↓sl7, ↓sl8, true_and, and_true, zbj, decide_true, decide_false, List.getElem?_cons_zero, List.getElem?_cons_succ, List.set_cons_zero, List.set_cons_succ, tt32_30, tt32_15, tt32_29, tt32_12, tt32_31, tt32_14, tt32_27, tt32_26, tt32_23, tt32_22, tt32_25, tt32_24, tt32_16, tt32_21, tt32_19, tt32_18, tt32_13])
  refine keys_v T5 fun kn ks h6 nk0 nk1 ke kl0 kl1 T6 f6 => ?_
  try simp (maxSteps := 4000000) (disch := decide) only [↓zdg, ↓zdh, ↓zcw, ↓zeq, ↓zeo, ↓zep, ↓zbu, ↓zbv, ↓zcz, ↓zew, ↓zdc, ↓zex, ↓zdd, ↓zbw, ↓zev, ↓zeu, ↓zet, ↓zcy, ↓zda, ↓zdb, ↓zde, ↓zey, ↓zes, ↓zbi, ↓zfx, ↓zfy, ↓zci, ↓zcj, ↓zfp, ↓zbh, ↓zfh, ↓zfn, ↓zga, ↓zfl, ↓zdp, ↓zdo, ↓zfm, ↓zff, ↓zfk, ↓zgc, ↓zfd, ↓zgd, ↓zfq, ↓or1, ↓and2, ↓or2, ↓zdr, ↓zfs, ↓zds, ↓zft, ↓zfg, ↓zeg, ↓zcr, ↓zfo, ↓zfj, ↓zgb, ↓zfr, ↓zer, ↓zbk, ↓zge, ↓zfz, ↓zfi, ↓zdm, ↓zfe, ↓zdn, ↓zca, ↓zcb, ↓zfa, ↓zfv, ↓zez, ↓zfw, ↓zfc, ↓zfu, ↓zfb, ↓zdj, ↓zcd, ↓zdk, ↓zbl, ↓zdy, ↓zcf, ↓zdz, ↓zcg, ↓zch, ↓zbz, ↓zcc, ↓zdi, ↓zei, ↓zeh, ↓zdx, ↓zdw, ↓zdu, ↓zdq, ↓zea, ↓zcs, ↓zct, ↓zen, ↓zbg, ↓zcv, ↓zcu, ↓zcx, ↓zce, ↓reduceIte, and_self, ↓zbt, ↓zcq, ↓zbs, ↓zbm, ↓zdl, ↓zdf, ↓zby, ↓zec, ↓zed, ↓zee, ↓zef, ↓zdv, ↓zdt, ↓zem, ↓zek, ↓zel, ↓zej, ↓zcl, ↓zeb, ↓zck, ↓zcn, ↓zco, ↓zcm, ↓zbo, ↓zcp, ↓zbn, ↓zbq, ↓zbr, ↓zbp, ↓zal, ↓zak, ↓zai, ↓zba, ↓zaj, ↓zax, ↓zaw, ↓zau, ↓zbe, ↓zav, ↓zad, ↓zac, ↓zaa, ↓zay, ↓zab, ↓zap, ↓zao, ↓zam, ↓zbb, ↓zan, ↓zat, ↓zas, ↓zaq, ↓zbc, ↓zar, ↓zah, ↓zag, ↓zae, ↓zaz, ↓zaf, Bool.not_true, Bool.not_false, Bool.false_eq_true, zbf, zbd, ↓sl0, ↓sl1, ↓sl2, ↓sl3, ↓sl4, ↓sl5, ↓sl6, ↓sl7, ↓sl8, true_and, and_true, zbj, decide_true, decide_false, List.getElem?_cons_zero, List.getElem?_cons_succ, List.set_cons_zero, List.set_cons_succ, tt32_30, tt32_15, tt32_29, tt32_12, tt32_31, tt32_14, tt32_27, tt32_26, tt32_23, tt32_22, tt32_25, tt32_24, tt32_16, tt32_21, tt32_19, tt32_18, tt32_13]
  repeat (refine nx_nx.mpr ?_; simp (maxSteps := 4000000) (disch := decide) only [↓zdg, ↓zdh, ↓zcw, ↓zeq, ↓zeo, ↓zep, ↓zbu, ↓zbv, ↓zcz, ↓zew, ↓zdc, ↓zex, ↓zdd, ↓zbw, ↓zev, ↓zeu, ↓zet, ↓zcy, ↓zda, ↓zdb, ↓zde, ↓zey, ↓zes, ↓zbi, ↓zfx, ↓zfy, ↓zci, ↓zcj, ↓zfp, ↓zbh, ↓zfh, ↓zfn, ↓zga, ↓zfl, ↓zdp, ↓zdo, ↓zfm, ↓zff, ↓zfk, ↓zgc, ↓zfd, ↓zgd, ↓zfq, ↓or1, ↓and2, ↓or2, ↓zdr, ↓zfs, ↓zds, ↓zft, ↓zfg, ↓zeg, ↓zcr, ↓zfo, ↓zfj, ↓zgb, ↓zfr, ↓zer, ↓zbk, ↓zge, ↓zfz, ↓zfi, ↓zdm, ↓zfe, ↓zdn, ↓zca, ↓zcb, ↓zfa, ↓zfv, ↓zez, ↓zfw, ↓zfc, ↓zfu, ↓zfb, ↓zdj, ↓zcd, ↓zdk, ↓zbl, ↓zdy, ↓zcf, ↓zdz, ↓zcg, ↓zch, ↓zbz, ↓zcc, ↓zdi, ↓zei, ↓zeh, ↓zdx, ↓zdw, ↓zdu, ↓zdq, ↓zea, ↓zcs, ↓zct, ↓zen, ↓zbg, ↓zcv, ↓zcu, ↓zcx, ↓zce, ↓reduceIte, and_self, ↓zbt, ↓zcq, ↓zbs, ↓zbm, ↓zdl, ↓zdf, ↓zby, ↓zec, ↓zed, ↓zee, ↓zef, ↓zdv, ↓zdt, ↓zem, ↓zek, ↓zel, ↓zej, ↓zcl, ↓zeb, ↓zck, ↓zcn, ↓zco, ↓zcm, ↓zbo, ↓zcp, ↓zbn, ↓zbq, ↓zbr, ↓zbp, ↓zal, ↓zak, ↓zai, ↓zba, ↓zaj, ↓zax, ↓zaw, ↓zau, ↓zbe, ↓zav, ↓zad, ↓zac, ↓zaa, ↓zay, ↓zab, ↓zap, ↓zao, ↓zam, ↓zbb, ↓zan, ↓zat, ↓zas, ↓zaq, ↓zbc, ↓zar, ↓zah, ↓zag, ↓zae, ↓zaz, ↓zaf, Bool.not_true, Bool.not_false, Bool.false_eq_true, zbf, zbd, ↓sl0, ↓sl1, ↓sl2, ↓sl3, ↓sl4, ↓sl5, ↓sl6, ↓sl7, ↓sl8, true_and, and_true, zbj, decide_true, decide_false, List.getElem?_cons_zero, List.getElem?_cons_succ, List.set_cons_zero, List.set_cons_succ, tt32_30, tt32_15, tt32_29, tt32_12, tt32_31, tt32_14, tt32_27, tt32_26, tt32_23, tt32_22, tt32_25, tt32_24, tt32_16, tt32_21, tt32_19, tt32_18, tt32_13])
  -- the entries
  refine draw_v T6 (by decide) (by decide) fun v h7 v0 v1 T7 f7 => ?_
  refine rngD_i (by omega) (by omega) ?_
  have ke7 := f7.keep _ _ nk0 ke
  refine vCo_no (fun i acc h' => ∃ es : List (Key × Key), acc = es.map prD ∧ es.length = i ∧ h'[kn]? = some (.lst (ks.map kD)) ∧ Tape t h' ∧ Fr t h7 h') ⟨[], rfl, rfl, ke7, T7, .refl⟩ (fun _ _ _ _ _ _ z => nomatch z) (fun i acc h' d hd ⟨es, ea, hl, e5, T', f'⟩ => ?_) fun acc h' ⟨es, ea, les, ke8, T8, f8⟩ => ?_
  · refine ⟨_, rfl, ?_⟩
    have lk : (ks.map kD).length = ks.length := List.length_map ..
    simp (maxSteps := 4000000) (disch := decide) only [↓zdg, ↓zdh, ↓zcw, ↓zeq, ↓zeo, ↓zep, ↓zbu, ↓zbv, ↓zcz, ↓zew, ↓zdc, ↓zex, ↓zdd, ↓zbw, ↓zev, ↓zeu, ↓zet, ↓zcy, ↓zda, ↓zdb, ↓zde, ↓zey, ↓zes, ↓zbi, ↓zfx, ↓zfy, ↓zci, ↓zcj, ↓zfp, ↓zbh, ↓zfh, ↓zfn, ↓zga, ↓zfl, ↓zdp, ↓zdo, ↓zfm, ↓zff, ↓zfk, ↓zgc, ↓zfd, ↓zgd, ↓zfq, ↓or1, ↓and2, ↓or2, ↓zdr, ↓zfs, ↓zds, ↓zft, ↓zfg, ↓zeg, ↓zcr, ↓zfo, ↓zfj, ↓zgb, ↓zfr, ↓zer, ↓zbk, ↓zge, ↓zfz, ↓zfi, ↓zdm, ↓zfe, ↓zdn, ↓zca, ↓zcb, ↓zfa, ↓zfv, ↓zez, ↓zfw, ↓zfc, ↓zfu, ↓zfb, ↓zdj, ↓zcd, ↓zdk, ↓zbl, ↓zdy, ↓zcf, ↓zdz, ↓zcg, ↓zch, ↓zbz, ↓zcc, ↓zdi, ↓zei, ↓zeh, ↓zdx, ↓zdw, ↓zdu, ↓zdq, ↓zea, ↓zcs, ↓zct, ↓zen, ↓zbg, ↓zcv, ↓zcu, ↓zcx, ↓zce, ↓reduceIte, and_self, ↓zbt, ↓zcq, ↓zbs, ↓zbm, ↓zdl, ↓zdf, ↓zby, ↓zec, ↓zed, ↓zee, ↓zef, ↓zdv, ↓zdt, ↓zem, ↓zek, ↓zel, ↓zej, ↓zcl, ↓zeb, ↓zck, ↓zcn, ↓zco, ↓zcm, ↓zbo, ↓zcp, ↓zbn, ↓zbq, ↓zbr, ↓zbp, ↓zal, ↓zak, ↓zai, ↓zba, ↓zaj, ↓zax, ↓zaw, ↓zau, ↓zbe, ↓zav, ↓zad, ↓zac, ↓zaa, ↓zay, ↓zab, ↓zap, ↓zao, ↓zam, ↓zbb, ↓zan, ↓zat, ↓zas, ↓zaq, ↓zbc, ↓zar, ↓zah, ↓zag, ↓zae, ↓zaz, ↓zaf, Bool.not_true, Bool.not_false, Bool.false_eq_true, zbf, zbd, ↓sl0, ↓sl1, ↓sl2, ↓sl3, ↓sl4, ↓sl5, ↓sl6, ↓sl7, ↓sl8, true_and, and_true, zbj, decide_true, decide_false, List.getElem?_cons_zero, List.getElem?_cons_succ, List.set_cons_zero, List.set_cons_succ, wipeD, tt32_30, tt32_15, tt32_29, tt32_12, tt32_31, tt32_14, tt32_27, tt32_26, tt32_23, tt32_22, tt32_25, tt32_24, tt32_16, tt32_21, tt32_19, tt32_18, tt32_13, ↓len_ref e5]
    rw [lk]
    refine draw_v T' (by omega) (by omega) fun w h8 w0 w1 T9 f9 => ?_
    refine ix_lit (f9.keep _ _ nk0 e5) w0 (by rw [lk]; exact w1) fun kd hkd => ?_
    obtain ⟨k, _, rfl⟩ := List.mem_map.mp hkd
    try simp (maxSteps := 4000000) (disch := decide) only [↓zdg, ↓zdh, ↓zcw, ↓zeq, ↓zeo, ↓zep, ↓zbu, ↓zbv, ↓zcz, ↓zew, ↓zdc, ↓zex, ↓zdd, ↓zbw, ↓zev, ↓zeu, ↓zet, ↓zcy, ↓zda, ↓zdb, ↓zde, ↓zey, ↓zes, ↓zbi, ↓zfx, ↓zfy, ↓zci, ↓zcj, ↓zfp, ↓zbh, ↓zfh, ↓zfn, ↓zga, ↓zfl, ↓zdp, ↓zdo, ↓zfm, ↓zff, ↓zfk, ↓zgc, ↓zfd, ↓zgd, ↓zfq, ↓or1, ↓and2, ↓or2, ↓zdr, ↓zfs, ↓zds, ↓zft, ↓zfg, ↓zeg, ↓zcr, ↓zfo, ↓zfj, ↓zgb, ↓zfr, ↓zer, ↓zbk, ↓zge, ↓zfz, ↓zfi, ↓zdm, ↓zfe, ↓zdn, ↓zca, ↓zcb, ↓zfa, ↓zfv, ↓zez, ↓zfw, ↓zfc, ↓zfu, ↓zfb, ↓zdj, ↓zcd, ↓zdk, ↓zbl, ↓zdy, ↓zcf, ↓zdz, ↓zcg, ↓zch, ↓zbz, ↓zcc, ↓zdi, ↓zei, ↓zeh, ↓zdx, ↓zdw, ↓zdu, ↓zdq, ↓zea, ↓zcs, ↓zct, ↓zen, ↓zbg, ↓zcv, ↓zcu, ↓zcx, ↓zce, ↓reduceIte, and_self, ↓zbt, ↓zcq, ↓zbs, ↓zbm, ↓zdl, ↓zdf, ↓zby, ↓zec, ↓zed, ↓zee, ↓zef, ↓zdv, ↓zdt, ↓zem, ↓zek, ↓zel, ↓zej, ↓zcl, ↓zeb, ↓zck, ↓zcn, ↓zco, ↓zcm, ↓zbo, ↓zcp, ↓zbn, ↓zbq, ↓zbr, ↓zbp, ↓zal, ↓zak, ↓zai, ↓zba, ↓zaj, ↓zax, ↓zaw, ↓zau, ↓zbe, ↓zav, ↓zad, ↓zac, ↓zaa, ↓zay, ↓zab, ↓zap, ↓zao, ↓zam, ↓zbb, ↓zan, ↓zat, ↓zas, ↓zaq, ↓zbc, ↓zar, ↓zah, ↓zag, ↓zae, ↓zaz, ↓zaf, Bool.not_true, Bool.not_false, Bool.false_eq_true, zbf, zbd, ↓sl0, ↓sl1, ↓sl2, ↓sl3, ↓sl4, ↓sl5, ↓sl6, ↓sl7, ↓sl8, true_and, and_true, zbj, decide_true, decide_false, List.getElem?_cons_zero, List.getElem?_cons_succ, List.set_cons_zero, List.set_cons_succ, tt32_30, tt32_15, tt32_29, tt32_12, tt32_31, tt32_14, tt32_27, tt32_26, tt32_23, tt32_22, tt32_25, tt32_24, tt32_16, tt32_21, tt32_19, tt32_18, tt32_13]
    refine scalar_v T9 fun x h9 sx T10 f10 => ?_
    obtain ⟨y, rfl⟩ := sx.key
    try simp (maxSteps := 4000000) (disch := decide) only [↓zdg, ↓zdh, ↓zcw, ↓zeq, ↓zeo, ↓zep, ↓zbu, ↓zbv, ↓zcz, ↓zew, ↓zdc, ↓zex, ↓zdd, ↓zbw, ↓zev, ↓zeu, ↓zet, ↓zcy, ↓zda, ↓zdb, ↓zde, ↓zey, ↓zes, ↓zbi, ↓zfx, ↓zfy, ↓zci, ↓zcj, ↓zfp, ↓zbh, ↓zfh, ↓zfn, ↓zga, ↓zfl, ↓zdp, ↓zdo, ↓zfm, ↓zff, ↓zfk, ↓zgc, ↓zfd, ↓zgd, ↓zfq, ↓or1, ↓and2, ↓or2, ↓zdr, ↓zfs, ↓zds, ↓zft, ↓zfg, ↓zeg, ↓zcr, ↓zfo, ↓zfj, ↓zgb, ↓zfr, ↓zer, ↓zbk, ↓zge, ↓zfz, ↓zfi, ↓zdm, ↓zfe, ↓zdn, ↓zca, ↓zcb, ↓zfa, ↓zfv, ↓zez, ↓zfw, ↓zfc, ↓zfu, ↓zfb, ↓zdj, ↓zcd, ↓zdk, ↓zbl, ↓zdy, ↓zcf, ↓zdz, ↓zcg, ↓zch, ↓zbz, ↓zcc, ↓zdi, ↓zei, ↓zeh, ↓zdx, ↓zdw, ↓zdu, ↓zdq, ↓zea, ↓zcs, ↓zct, ↓zen, ↓zbg, ↓zcv, ↓zcu, ↓zcx, ↓zce, ↓reduceIte, and_self, ↓zbt, ↓zcq, ↓zbs, ↓zbm, ↓zdl, ↓zdf, ↓zby, ↓zec, ↓zed, ↓zee, ↓zef, ↓zdv, ↓zdt, ↓zem, ↓zek, ↓zel, ↓zej, ↓zcl, ↓zeb, ↓zck, ↓zcn, ↓zco, ↓zcm, ↓zbo, ↓zcp, ↓zbn, ↓zbq, ↓zbr, ↓zbp, ↓zal, ↓zak, ↓zai, ↓zba, ↓zaj, ↓zax, ↓zaw, ↓zau, ↓zbe, ↓zav, ↓zad, ↓zac, ↓zaa, ↓zay, ↓zab, ↓zap, ↓zao, ↓zam, ↓zbb, ↓zan, ↓zat, ↓zas, ↓zaq, ↓zbc, ↓zar, ↓zah, ↓zag, ↓zae, ↓zaz, ↓zaf, Bool.not_true, Bool.not_false, Bool.false_eq_true, zbf, zbd, ↓sl0, ↓sl1, ↓sl2, ↓sl3, ↓sl4, ↓sl5, ↓sl6, ↓sl7, ↓sl8, true_and, and_true, zbj, decide_true, decide_false, List.getElem?_cons_zero, List.getElem?_cons_succ, List.set_cons_zero, List.set_cons_succ]
    exact ⟨es ++ [(k, y)], by rw [ea, List.map_append]; rfl, by rw [List.length_append, hl]; rfl, f10.keep _ _ nk0 (f9.keep _ _ nk0 e5), T10, (f'.trans f9).trans f10⟩
  rw [rng_len] at les
  subst ea
  have le9 : es.length ≤ 9 := by omega
  refine ⟨sz (by rw [List.length_map]; omega), ?_⟩
  have el : (h' ++ [OD.lst (es.map prD)])[h'.length]? = some (.lst (es.map prD)) := app_new
  have T11 : Tape t (h' ++ [OD.lst (es.map prD)]) := T8.app
  have tl := T8.lt
  generalize h' ++ [OD.lst (es.map prD)] = h11 at el T11 ⊢
  have een : h'.length ≠ t := Nat.ne_of_gt tl
  generalize h'.length = en at el een ⊢
  clear ke8 f8 T8 ke7 f7 T7
  try simp (maxSteps := 4000000) (disch := decide) only [↓zdg, ↓zdh, ↓zcw, ↓zeq, ↓zeo, ↓zep, ↓zbu, ↓zbv, ↓zcz, ↓zew, ↓zdc, ↓zex, ↓zdd, ↓zbw, ↓zev, ↓zeu, ↓zet, ↓zcy, ↓zda, ↓zdb, ↓zde, ↓zey, ↓zes, ↓zbi, ↓zfx, ↓zfy, ↓zci, ↓zcj, ↓zfp, ↓zbh, ↓zfh, ↓zfn, ↓zga, ↓zfl, ↓zdp, ↓zdo, ↓zfm, ↓zff, ↓zfk, ↓zgc, ↓zfd, ↓zgd, ↓zfq, ↓or1, ↓and2, ↓or2, ↓zdr, ↓zfs, ↓zds, ↓zft, ↓zfg, ↓zeg, ↓zcr, ↓zfo, ↓zfj, ↓zgb, ↓zfr, ↓zer, ↓zbk, ↓zge, ↓zfz, ↓zfi, ↓zdm, ↓zfe, ↓zdn, ↓zca, ↓zcb, ↓zfa, ↓zfv, ↓zez, ↓zfw, ↓zfc, ↓zfu, ↓zfb, ↓zdj, ↓zcd, ↓zdk, ↓zbl, ↓zdy, ↓zcf, ↓zdz, ↓zcg, ↓zch, ↓zbz, ↓zcc, ↓zdi, ↓zei, ↓zeh, ↓zdx, ↓zdw, ↓zdu, ↓zdq, ↓zea, ↓zcs, ↓zct, ↓zen, ↓zbg, ↓zcv, ↓zcu, ↓zcx, ↓zce, ↓reduceIte, and_self, ↓zbt, ↓zcq, ↓zbs, ↓zbm, ↓zdl, ↓zdf, ↓zby, ↓zec, ↓zed, ↓zee, ↓zef, ↓zdv, ↓zdt, ↓zem, ↓zek, ↓zel, ↓zej, ↓zcl, ↓zeb, ↓zck, ↓zcn, ↓zco, ↓zcm, ↓zbo, ↓zcp, ↓zbn, ↓zbq, ↓zbr, ↓zbp, ↓zal, ↓zak, ↓zai, ↓zba, ↓zaj, ↓zax, ↓zaw, ↓zau, ↓zbe, ↓zav, ↓zad, ↓zac, ↓zaa, ↓zay, ↓zab, ↓zap, ↓zao, ↓zam, ↓zbb, ↓zan, ↓zat, ↓zas, ↓zaq, ↓zbc, ↓zar, ↓zah, ↓zag, ↓zae, ↓zaz, ↓zaf, Bool.not_true, Bool.not_false, Bool.false_eq_true, zbf, zbd, ↓sl0, ↓sl1, ↓sl2, ↓sl3, ↓sl4, ↓sl5, ↓sl6, ↓sl7, ↓sl8, true_and, and_true, zbj, decide_true, decide_false, List.getElem?_cons_zero, List.getElem?_cons_succ, List.set_cons_zero, List.set_cons_succ, tt32_30, tt32_15, tt32_29, tt32_12, tt32_31, tt32_14, tt32_27, tt32_26, tt32_23, tt32_22, tt32_25, tt32_24, tt32_16, tt32_21, tt32_19, tt32_18, tt32_13, ↓it_ref (app_at el)]
  repeat (refine nx_nx.mpr ?_; simp (maxSteps := 4000000) (disch := decide) only [↓zdg, ↓zdh, ↓zcw, ↓zeq, ↓zeo, ↓zep, ↓zbu, ↓zbv, ↓zcz, ↓zew, ↓zdc, ↓zex, ↓zdd, ↓zbw, ↓zev, ↓zeu, ↓zet, ↓zcy, ↓zda, ↓zdb, ↓zde, ↓zey, ↓zes, ↓zbi, ↓zfx, ↓zfy, ↓zci, ↓zcj, ↓zfp, ↓zbh, ↓zfh, ↓zfn, ↓zga, ↓zfl, ↓zdp, ↓zdo, ↓zfm, ↓zff, ↓zfk, ↓zgc, ↓zfd, ↓zgd, ↓zfq, ↓or1, ↓and2, ↓or2, ↓zdr, ↓zfs, ↓zds, ↓zft, ↓zfg, ↓zeg, ↓zcr, ↓zfo, ↓zfj, ↓zgb, ↓zfr, ↓zer, ↓zbk, ↓zge, ↓zfz, ↓zfi, ↓zdm, ↓zfe, ↓zdn, ↓zca, ↓zcb, ↓zfa, ↓zfv, ↓zez, ↓zfw, ↓zfc, ↓zfu, ↓zfb, ↓zdj, ↓zcd, ↓zdk, ↓zbl, ↓zdy, ↓zcf, ↓zdz, ↓zcg, ↓zch, ↓zbz, ↓zcc, ↓zdi, ↓zei, ↓zeh, ↓zdx, ↓zdw, ↓zdu, ↓zdq, ↓zea, ↓zcs, ↓zct, ↓zen, ↓zbg, ↓zcv, ↓zcu, ↓zcx, ↓zce, ↓reduceIte, and_self, ↓zbt, ↓zcq, ↓zbs, ↓zbm, ↓zdl, ↓zdf, ↓zby, ↓zec, ↓zed, ↓zee, ↓zef, ↓zdv, ↓zdt, ↓zem, ↓zek, ↓zel, ↓zej, ↓zcl, ↓zeb, ↓zck, ↓zcn, ↓zco, ↓zcm, ↓zbo, ↓zcp, ↓zbn, ↓zbq, ↓zbr, ↓zbp, ↓zal, ↓zak, ↓zai, ↓zba, ↓zaj, ↓zax, ↓zaw, ↓zau, ↓zbe, ↓zav, ↓zad, ↓zac, ↓zaa, ↓zay, ↓zab, ↓zap, ↓zao, ↓zam, ↓zbb, ↓zan, ↓zat, ↓zas, ↓zaq, ↓zbc, ↓zar, ↓zah, ↓zag, ↓zae, ↓zaz, ↓zaf, Bool.not_true, Bool.not_false, Bool.false_eq_true, zbf, zbd, ↓sl0, ↓sl1, ↓sl2, ↓sl3, ↓sl4, ↓sl5, ↓sl6, ↓sl7, ↓sl8, true_and, and_true, zbj, decide_true, decide_false, List.getElem?_cons_zero, List.getElem?_cons_succ, List.set_cons_zero, List.set_cons_succ, tt32_30, tt32_15, tt32_29, tt32_12, tt32_31, tt32_14, tt32_27, tt32_26, tt32_23, tt32_22, tt32_25, tt32_24, tt32_16, tt32_21, tt32_19, tt32_18, tt32_13, ↓it_ref (app_at el)])
  -- the table
  refine for_sat (fun i τ hh => hh = h11 ++ [.dct (tabD kD (tabOf (es.take i)))] ∧ ∃ z7, τ = [some (d), some (.ref t), some (.ref p), some (.tup (rs.map teD)), some (.ref kn), some (.ref en), some (.ref h11.length), z7, none, none, none, none, none, none, none, none, none]) ⟨rfl, _, rfl⟩ (fun i τ hh _ ⟨eh, _⟩ p hp => by rw [List.mem_singleton.mp hp, eh]; exact app_at el) (fun i τ hh dd hd ⟨eh, z7, eτ⟩ => ?_) fun τ hh ⟨eh, z7, eτ⟩ => ?_
  · subst eh eτ
    rw [List.getElem?_map] at hd
    cases ex : es[i]? with
    | none => rw [ex] at hd; cases hd
    | some q =>
      rw [ex] at hd
      cases hd
      have hz : (tabD kD (tabOf (es.take i))).length < sizeLine := by
        unfold tabD
        rw [List.length_map, sizeLine_eq]
        have := tabOf_len (es.take i)
        rw [List.length_take] at this
        omega
      refine ⟨_, rfl, ?_⟩
      simp (maxSteps := 4000000) (disch := decide) only [↓zdg, ↓zdh, ↓zcw, ↓zeq, ↓zeo, ↓zep, ↓zbu, ↓zbv, ↓zcz, ↓zew, ↓zdc, ↓zex, ↓zdd, ↓zbw, ↓zev, ↓zeu, ↓zet, ↓zcy, ↓zda, ↓zdb, ↓zde, ↓zey, ↓zes, ↓zbi, ↓zfx, ↓zfy, ↓zci, ↓zcj, ↓zfp, ↓zbh, ↓zfh, ↓zfn, ↓zga, ↓zfl, ↓zdp, ↓zdo, ↓zfm, ↓zff, ↓zfk, ↓zgc, ↓zfd, ↓zgd, ↓zfq, ↓or1, ↓and2, ↓or2, ↓zdr, ↓zfs, ↓zds, ↓zft, ↓zfg, ↓zeg, ↓zcr, ↓zfo, ↓zfj, ↓zgb, ↓zfr, ↓zer, ↓zbk, ↓zge, ↓zfz, ↓zfi, ↓zdm, ↓zfe, ↓zdn, ↓zca, ↓zcb, ↓zfa, ↓zfv, ↓zez, ↓zfw, ↓zfc, ↓zfu, ↓zfb, ↓zdj, ↓zcd, ↓zdk, ↓zbl, ↓zdy, ↓zcf, ↓zdz, ↓zcg, ↓zch, ↓zbz, ↓zcc, ↓zdi, ↓zei, ↓zeh, ↓zdx, ↓zdw, ↓zdu, ↓zdq, ↓zea, ↓zcs, ↓zct, ↓zen, ↓zbg, ↓zcv, ↓zcu, ↓zcx, ↓zce, ↓reduceIte, and_self, ↓zbt, ↓zcq, ↓zbs, ↓zbm, ↓zdl, ↓zdf, ↓zby, ↓zec, ↓zed, ↓zee, ↓zef, ↓zdv, ↓zdt, ↓zem, ↓zek, ↓zel, ↓zej, ↓zcl, ↓zeb, ↓zck, ↓zcn, ↓zco, ↓zcm, ↓zbo, ↓zcp, ↓zbn, ↓zbq, ↓zbr, ↓zbp, ↓zal, ↓zak, ↓zai, ↓zba, ↓zaj, ↓zax, ↓zaw, ↓zau, ↓zbe, ↓zav, ↓zad, ↓zac, ↓zaa, ↓zay, ↓zab, ↓zap, ↓zao, ↓zam, ↓zbb, ↓zan, ↓zat, ↓zas, ↓zaq, ↓zbc, ↓zar, ↓zah, ↓zag, ↓zae, ↓zaz, ↓zaf, Bool.not_true, Bool.not_false, Bool.false_eq_true, zbf, zbd, ↓sl0, ↓sl1, ↓sl2, ↓sl3, ↓sl4, ↓sl5, ↓sl6, ↓sl7, ↓sl8, true_and, and_true, zbj, decide_true, decide_false, List.getElem?_cons_zero, List.getElem?_cons_succ, List.set_cons_zero, List.set_cons_succ, prD, setD_dk app_new (keyS_kD q.1) hz]
      refine ⟨?_, _, rfl⟩
      rw [set_last, dput_tab, take_snoc ex, tabOf_snoc]
  subst eh eτ
  rw [List.length_map, List.take_length]
  have tb : (h11 ++ [OD.dct (tabD kD (tabOf es))])[h11.length]? = some (.dct (tabD kD (tabOf es))) := app_new
  have T12 : Tape t (h11 ++ [OD.dct (tabD kD (tabOf es))]) := T11.app
  have el2 : (h11 ++ [OD.dct (tabD kD (tabOf es))])[en]? = some (.lst (es.map prD)) := app_at el
  have tn : h11.length ≠ t := Nat.ne_of_gt T11.lt
  generalize h11 ++ [OD.dct (tabD kD (tabOf es))] = h12 at tb T12 el2 ⊢
  generalize h11.length = tbn at tb tn ⊢
  try simp (maxSteps := 4000000) (disch := decide) only [↓zdg, ↓zdh, ↓zcw, ↓zeq, ↓zeo, ↓zep, ↓zbu, ↓zbv, ↓zcz, ↓zew, ↓zdc, ↓zex, ↓zdd, ↓zbw, ↓zev, ↓zeu, ↓zet, ↓zcy, ↓zda, ↓zdb, ↓zde, ↓zey, ↓zes, ↓zbi, ↓zfx, ↓zfy, ↓zci, ↓zcj, ↓zfp, ↓zbh, ↓zfh, ↓zfn, ↓zga, ↓zfl, ↓zdp, ↓zdo, ↓zfm, ↓zff, ↓zfk, ↓zgc, ↓zfd, ↓zgd, ↓zfq, ↓or1, ↓and2, ↓or2, ↓zdr, ↓zfs, ↓zds, ↓zft, ↓zfg, ↓zeg, ↓zcr, ↓zfo, ↓zfj, ↓zgb, ↓zfr, ↓zer, ↓zbk, ↓zge, ↓zfz, ↓zfi, ↓zdm, ↓zfe, ↓zdn, ↓zca, ↓zcb, ↓zfa, ↓zfv, ↓zez, ↓zfw, ↓zfc, ↓zfu, ↓zfb, ↓zdj, ↓zcd, ↓zdk, ↓zbl, ↓zdy, ↓zcf, ↓zdz, ↓zcg, ↓zch, ↓zbz, ↓zcc, ↓zdi, ↓zei, ↓zeh, ↓zdx, ↓zdw, ↓zdu, ↓zdq, ↓zea, ↓zcs, ↓zct, ↓zen, ↓zbg, ↓zcv, ↓zcu, ↓zcx, ↓zce, ↓reduceIte, and_self, ↓zbt, ↓zcq, ↓zbs, ↓zbm, ↓zdl, ↓zdf, ↓zby, ↓zec, ↓zed, ↓zee, ↓zef, ↓zdv, ↓zdt, ↓zem, ↓zek, ↓zel, ↓zej, ↓zcl, ↓zeb, ↓zck, ↓zcn, ↓zco, ↓zcm, ↓zbo, ↓zcp, ↓zbn, ↓zbq, ↓zbr, ↓zbp, ↓zal, ↓zak, ↓zai, ↓zba, ↓zaj, ↓zax, ↓zaw, ↓zau, ↓zbe, ↓zav, ↓zad, ↓zac, ↓zaa, ↓zay, ↓zab, ↓zap, ↓zao, ↓zam, ↓zbb, ↓zan, ↓zat, ↓zas, ↓zaq, ↓zbc, ↓zar, ↓zah, ↓zag, ↓zae, ↓zaz, ↓zaf, Bool.not_true, Bool.not_false, Bool.false_eq_true, zbf, zbd, ↓sl0, ↓sl1, ↓sl2, ↓sl3, ↓sl4, ↓sl5, ↓sl6, ↓sl7, ↓sl8, true_and, and_true, zbj, decide_true, decide_false, List.getElem?_cons_zero, List.getElem?_cons_succ, List.set_cons_zero, List.set_cons_succ, tt32_30, tt32_15, tt32_29, tt32_12, tt32_31, tt32_14, tt32_27, tt32_26, tt32_23, tt32_22, tt32_25, tt32_24, tt32_16, tt32_21, tt32_19, tt32_18, tt32_13]
  repeat (refine nx_nx.mpr ?_; simp (maxSteps := 4000000) (disch := decide) only [↓zdg, ↓zdh, ↓zcw, ↓zeq, ↓zeo, ↓zep, ↓zbu, ↓zbv, ↓zcz, ↓zew, ↓zdc, ↓zex, ↓zdd, ↓zbw, ↓zev, ↓zeu, ↓zet, ↓zcy, ↓zda, ↓zdb, ↓zde, ↓zey, ↓zes, ↓zbi, ↓zfx, ↓zfy, ↓zci, ↓zcj, ↓zfp, ↓zbh, ↓zfh, ↓zfn, ↓zga, ↓zfl, ↓zdp, ↓zdo, ↓zfm, ↓zff, ↓zfk, ↓zgc, ↓zfd, ↓zgd, ↓zfq, ↓or1, ↓and2, ↓or2, ↓zdr, ↓zfs, ↓zds, ↓zft, ↓zfg, ↓zeg, ↓zcr, ↓zfo, ↓zfj, ↓zgb, ↓zfr, ↓zer, ↓zbk, ↓zge, ↓zfz, ↓zfi, ↓zdm, ↓zfe, ↓zdn, ↓zca, ↓zcb, ↓zfa, ↓zfv, ↓zez, ↓zfw, ↓zfc, ↓zfu, ↓zfb, ↓zdj, ↓zcd, ↓zdk, ↓zbl, ↓zdy, ↓zcf, ↓zdz, ↓zcg, ↓zch, ↓zbz, ↓zcc, ↓zdi, ↓zei, ↓zeh, ↓zdx, ↓zdw, ↓zdu, ↓zdq, ↓zea, ↓zcs, ↓zct, ↓zen, ↓zbg, ↓zcv, ↓zcu, ↓zcx, ↓zce, ↓reduceIte, and_self, ↓zbt, ↓zcq, ↓zbs, ↓zbm, ↓zdl, ↓zdf, ↓zby, ↓zec, ↓zed, ↓zee, ↓zef, ↓zdv, ↓zdt, ↓zem, ↓zek, ↓zel, ↓zej, ↓zcl, ↓zeb, ↓zck, ↓zcn, ↓zco, ↓zcm, ↓zbo, ↓zcp, ↓zbn, ↓zbq, ↓zbr, ↓zbp, ↓zal, ↓zak, ↓zai, ↓zba, ↓zaj, ↓zax, ↓zaw, ↓zau, ↓zbe, ↓zav, ↓zad, ↓zac, ↓zaa, ↓zay, ↓zab, ↓zap, ↓zao, ↓zam, ↓zbb, ↓zan, ↓zat, ↓zas, ↓zaq, ↓zbc, ↓zar, ↓zah, ↓zag, ↓zae, ↓zaz, ↓zaf, Bool.not_true, Bool.not_false, Bool.false_eq_true, zbf, zbd, ↓sl0, ↓sl1, ↓sl2, ↓sl3, ↓sl4, ↓sl5, ↓sl6, ↓sl7, ↓sl8, true_and, and_true, zbj, decide_true, decide_false, List.getElem?_cons_zero, List.getElem?_cons_succ, List.set_cons_zero, List.set_cons_succ, tt32_30, tt32_15, tt32_29, tt32_12, tt32_31, tt32_14, tt32_27, tt32_26, tt32_23, tt32_22, tt32_25, tt32_24, tt32_16, tt32_21, tt32_19, tt32_18, tt32_13])
  refine drawn_items_v T12 (by decide) (by decide) fun qn is h13 qn0 qn1 qe ql T13 f13 => ?_
  try simp (maxSteps := 4000000) (disch := decide) only [↓zdg, ↓zdh, ↓zcw, ↓zeq, ↓zeo, ↓zep, ↓zbu, ↓zbv, ↓zcz, ↓zew, ↓zdc, ↓zex, ↓zdd, ↓zbw, ↓zev, ↓zeu, ↓zet, ↓zcy, ↓zda, ↓zdb, ↓zde, ↓zey, ↓zes, ↓zbi, ↓zfx, ↓zfy, ↓zci, ↓zcj, ↓zfp, ↓zbh, ↓zfh, ↓zfn, ↓zga, ↓zfl, ↓zdp, ↓zdo, ↓zfm, ↓zff, ↓zfk, ↓zgc, ↓zfd, ↓zgd, ↓zfq, ↓or1, ↓and2, ↓or2, ↓zdr, ↓zfs, ↓zds, ↓zft, ↓zfg, ↓zeg, ↓zcr, ↓zfo, ↓zfj, ↓zgb, ↓zfr, ↓zer, ↓zbk, ↓zge, ↓zfz, ↓zfi, ↓zdm, ↓zfe, ↓zdn, ↓zca, ↓zcb, ↓zfa, ↓zfv, ↓zez, ↓zfw, ↓zfc, ↓zfu, ↓zfb, ↓zdj, ↓zcd, ↓zdk, ↓zbl, ↓zdy, ↓zcf, ↓zdz, ↓zcg, ↓zch, ↓zbz, ↓zcc, ↓zdi, ↓zei, ↓zeh, ↓zdx, ↓zdw, ↓zdu, ↓zdq, ↓zea, ↓zcs, ↓zct, ↓zen, ↓zbg, ↓zcv, ↓zcu, ↓zcx, ↓zce, ↓reduceIte, and_self, ↓zbt, ↓zcq, ↓zbs, ↓zbm, ↓zdl, ↓zdf, ↓zby, ↓zec, ↓zed, ↓zee, ↓zef, ↓zdv, ↓zdt, ↓zem, ↓zek, ↓zel, ↓zej, ↓zcl, ↓zeb, ↓zck, ↓zcn, ↓zco, ↓zcm, ↓zbo, ↓zcp, ↓zbn, ↓zbq, ↓zbr, ↓zbp, ↓zal, ↓zak, ↓zai, ↓zba, ↓zaj, ↓zax, ↓zaw, ↓zau, ↓zbe, ↓zav, ↓zad, ↓zac, ↓zaa, ↓zay, ↓zab, ↓zap, ↓zao, ↓zam, ↓zbb, ↓zan, ↓zat, ↓zas, ↓zaq, ↓zbc, ↓zar, ↓zah, ↓zag, ↓zae, ↓zaz, ↓zaf, Bool.not_true, Bool.not_false, Bool.false_eq_true, zbf, zbd, ↓sl0, ↓sl1, ↓sl2, ↓sl3, ↓sl4, ↓sl5, ↓sl6, ↓sl7, ↓sl8, true_and, and_true, zbj, decide_true, decide_false, List.getElem?_cons_zero, List.getElem?_cons_succ, List.set_cons_zero, List.set_cons_succ, tt32_30, tt32_15, tt32_29, tt32_12, tt32_31, tt32_14, tt32_27, tt32_26, tt32_23, tt32_22, tt32_25, tt32_24, tt32_16, tt32_21, tt32_19, tt32_18, tt32_13]
  repeat (refine nx_nx.mpr ?_; simp (maxSteps := 4000000) (disch := decide) only [↓zdg, ↓zdh, ↓zcw, ↓zeq, ↓zeo, ↓zep, ↓zbu, ↓zbv, ↓zcz, ↓zew, ↓zdc, ↓zex, ↓zdd, ↓zbw, ↓zev, ↓zeu, ↓zet, ↓zcy, ↓zda, ↓zdb, ↓zde, ↓zey, ↓zes, ↓zbi, ↓zfx, ↓zfy, ↓zci, ↓zcj, ↓zfp, ↓zbh, ↓zfh, ↓zfn, ↓zga, ↓zfl, ↓zdp, ↓zdo, ↓zfm, ↓zff, ↓zfk, ↓zgc, ↓zfd, ↓zgd, ↓zfq, ↓or1, ↓and2, ↓or2, ↓zdr, ↓zfs, ↓zds, ↓zft, ↓zfg, ↓zeg, ↓zcr, ↓zfo, ↓zfj, ↓zgb, ↓zfr, ↓zer, ↓zbk, ↓zge, ↓zfz, ↓zfi, ↓zdm, ↓zfe, ↓zdn, ↓zca, ↓zcb, ↓zfa, ↓zfv, ↓zez, ↓zfw, ↓zfc, ↓zfu, ↓zfb, ↓zdj, ↓zcd, ↓zdk, ↓zbl, ↓zdy, ↓zcf, ↓zdz, ↓zcg, ↓zch, ↓zbz, ↓zcc, ↓zdi, ↓zei, ↓zeh, ↓zdx, ↓zdw, ↓zdu, ↓zdq, ↓zea, ↓zcs, ↓zct, ↓zen, ↓zbg, ↓zcv, ↓zcu, ↓zcx, ↓zce, ↓reduceIte, and_self, ↓zbt, ↓zcq, ↓zbs, ↓zbm, ↓zdl, ↓zdf, ↓zby, ↓zec, ↓zed, ↓zee, ↓zef, ↓zdv, ↓zdt, ↓zem, ↓zek, ↓zel, ↓zej, ↓zcl, ↓zeb, ↓zck, ↓zcn, ↓zco, ↓zcm, ↓zbo, ↓zcp, ↓zbn, ↓zbq, ↓zbr, ↓zbp, ↓zal, ↓zak, ↓zai, ↓zba, ↓zaj, ↓zax, ↓zaw, ↓zau, ↓zbe, ↓zav, ↓zad, ↓zac, ↓zaa, ↓zay, ↓zab, ↓zap, ↓zao, ↓zam, ↓zbb, ↓zan, ↓zat, ↓zas, ↓zaq, ↓zbc, ↓zar, ↓zah, ↓zag, ↓zae, ↓zaz, ↓zaf, Bool.not_true, Bool.not_false, Bool.false_eq_true, zbf, zbd, ↓sl0, ↓sl1, ↓sl2, ↓sl3, ↓sl4, ↓sl5, ↓sl6, ↓sl7, ↓sl8, true_and, and_true, zbj, decide_true, decide_false, List.getElem?_cons_zero, List.getElem?_cons_succ, List.set_cons_zero, List.set_cons_succ, tt32_30, tt32_15, tt32_29, tt32_12, tt32_31, tt32_14, tt32_27, tt32_26, tt32_23, tt32_22, tt32_25, tt32_24, tt32_16, tt32_21, tt32_19, tt32_18, tt32_13])
  refine drawn_intervals_v T13 (by decide) (by decide) fun dn iv h14 dn0 dn1 de dl db T14 f14 => ?_
  have tb14 := f14.keep _ _ tn (f13.keep _ _ tn tb)
  have el14 := f14.keep _ _ een (f13.keep _ _ een el2)
  have qe14 := f14.keep _ _ qn0 qe
  have q9 : is.length ≤ 9 := by omega
  have i9 : iv.length ≤ 9 := by omega
  have tbl := tabOf_len es
  try simp (maxSteps := 4000000) (disch := decide) only [↓zdg, ↓zdh, ↓zcw, ↓zeq, ↓zeo, ↓zep, ↓zbu, ↓zbv, ↓zcz, ↓zew, ↓zdc, ↓zex, ↓zdd, ↓zbw, ↓zev, ↓zeu, ↓zet, ↓zcy, ↓zda, ↓zdb, ↓zde, ↓zey, ↓zes, ↓zbi, ↓zfx, ↓zfy, ↓zci, ↓zcj, ↓zfp, ↓zbh, ↓zfh, ↓zfn, ↓zga, ↓zfl, ↓zdp, ↓zdo, ↓zfm, ↓zff, ↓zfk, ↓zgc, ↓zfd, ↓zgd, ↓zfq, ↓or1, ↓and2, ↓or2, ↓zdr, ↓zfs, ↓zds, ↓zft, ↓zfg, ↓zeg, ↓zcr, ↓zfo, ↓zfj, ↓zgb, ↓zfr, ↓zer, ↓zbk, ↓zge, ↓zfz, ↓zfi, ↓zdm, ↓zfe, ↓zdn, ↓zca, ↓zcb, ↓zfa, ↓zfv, ↓zez, ↓zfw, ↓zfc, ↓zfu, ↓zfb, ↓zdj, ↓zcd, ↓zdk, ↓zbl, ↓zdy, ↓zcf, ↓zdz, ↓zcg, ↓zch, ↓zbz, ↓zcc, ↓zdi, ↓zei, ↓zeh, ↓zdx, ↓zdw, ↓zdu, ↓zdq, ↓zea, ↓zcs, ↓zct, ↓zen, ↓zbg, ↓zcv, ↓zcu, ↓zcx, ↓zce, ↓reduceIte, and_self, ↓zbt, ↓zcq, ↓zbs, ↓zbm, ↓zdl, ↓zdf, ↓zby, ↓zec, ↓zed, ↓zee, ↓zef, ↓zdv, ↓zdt, ↓zem, ↓zek, ↓zel, ↓zej, ↓zcl, ↓zeb, ↓zck, ↓zcn, ↓zco, ↓zcm, ↓zbo, ↓zcp, ↓zbn, ↓zbq, ↓zbr, ↓zbp, ↓zal, ↓zak, ↓zai, ↓zba, ↓zaj, ↓zax, ↓zaw, ↓zau, ↓zbe, ↓zav, ↓zad, ↓zac, ↓zaa, ↓zay, ↓zab, ↓zap, ↓zao, ↓zam, ↓zbb, ↓zan, ↓zat, ↓zas, ↓zaq, ↓zbc, ↓zar, ↓zah, ↓zag, ↓zae, ↓zaz, ↓zaf, Bool.not_true, Bool.not_false, Bool.false_eq_true, zbf, zbd, ↓sl0, ↓sl1, ↓sl2, ↓sl3, ↓sl4, ↓sl5, ↓sl6, ↓sl7, ↓sl8, true_and, and_true, zbj, decide_true, decide_false, List.getElem?_cons_zero, List.getElem?_cons_succ, List.set_cons_zero, List.set_cons_succ, tt32_30, tt32_15, tt32_29, tt32_12, tt32_31, tt32_14, tt32_27, tt32_26, tt32_23, tt32_22, tt32_25, tt32_24, tt32_16, tt32_21, tt32_19, tt32_18, tt32_13]
  repeat (refine nx_nx.mpr ?_; simp (maxSteps := 4000000) (disch := decide) only [↓zdg, ↓zdh, ↓zcw, ↓zeq, ↓zeo, ↓zep, ↓zbu, ↓zbv, ↓zcz, ↓zew, ↓zdc, ↓zex, ↓zdd, ↓zbw, ↓zev, ↓zeu, ↓zet, ↓zcy, ↓zda, ↓zdb, ↓zde, ↓zey, ↓zes, ↓zbi, ↓zfx, ↓zfy, ↓zci, ↓zcj, ↓zfp, ↓zbh, ↓zfh, ↓zfn, ↓zga, ↓zfl, ↓zdp, ↓zdo, ↓zfm, ↓zff, ↓zfk, ↓zgc, ↓zfd, ↓zgd, ↓zfq, ↓or1, ↓and2, ↓or2, ↓zdr, ↓zfs, ↓zds, ↓zft, ↓zfg, ↓zeg, ↓zcr, ↓zfo, ↓zfj, ↓zgb, ↓zfr, ↓zer, ↓zbk, ↓zge, ↓zfz, ↓zfi, ↓zdm, ↓zfe, ↓zdn, ↓zca, ↓zcb, ↓zfa, ↓zfv, ↓zez, ↓zfw, ↓zfc, ↓zfu, ↓zfb, ↓zdj, ↓zcd, ↓zdk, ↓zbl, ↓zdy, ↓zcf, ↓zdz, ↓zcg, ↓zch, ↓zbz, ↓zcc, ↓zdi, ↓zei, ↓zeh, ↓zdx, ↓zdw, ↓zdu, ↓zdq, ↓zea, ↓zcs, ↓zct, ↓zen, ↓zbg, ↓zcv, ↓zcu, ↓zcx, ↓zce, ↓reduceIte, and_self, ↓zbt, ↓zcq, ↓zbs, ↓zbm, ↓zdl, ↓zdf, ↓zby, ↓zec, ↓zed, ↓zee, ↓zef, ↓zdv, ↓zdt, ↓zem, ↓zek, ↓zel, ↓zej, ↓zcl, ↓zeb, ↓zck, ↓zcn, ↓zco, ↓zcm, ↓zbo, ↓zcp, ↓zbn, ↓zbq, ↓zbr, ↓zbp, ↓zal, ↓zak, ↓zai, ↓zba, ↓zaj, ↓zax, ↓zaw, ↓zau, ↓zbe, ↓zav, ↓zad, ↓zac, ↓zaa, ↓zay, ↓zab, ↓zap, ↓zao, ↓zam, ↓zbb, ↓zan, ↓zat, ↓zas, ↓zaq, ↓zbc, ↓zar, ↓zah, ↓zag, ↓zae, ↓zaz, ↓zaf, Bool.not_true, Bool.not_false, Bool.false_eq_true, zbf, zbd, ↓sl0, ↓sl1, ↓sl2, ↓sl3, ↓sl4, ↓sl5, ↓sl6, ↓sl7, ↓sl8, true_and, and_true, zbj, decide_true, decide_false, List.getElem?_cons_zero, List.getElem?_cons_succ, List.set_cons_zero, List.set_cons_succ, tt32_30, tt32_15, tt32_29, tt32_12, tt32_31, tt32_14, tt32_27, tt32_26, tt32_23, tt32_22, tt32_25, tt32_24, tt32_16, tt32_21, tt32_19, tt32_18, tt32_13])
  refine entries_v tb14 (tabOf_nodup es) (by omega) fun h15 k15 => ?_
  try simp (maxSteps := 4000000) (disch := decide) only [↓zdg, ↓zdh, ↓zcw, ↓zeq, ↓zeo, ↓zep, ↓zbu, ↓zbv, ↓zcz, ↓zew, ↓zdc, ↓zex, ↓zdd, ↓zbw, ↓zev, ↓zeu, ↓zet, ↓zcy, ↓zda, ↓zdb, ↓zde, ↓zey, ↓zes, ↓zbi, ↓zfx, ↓zfy, ↓zci, ↓zcj, ↓zfp, ↓zbh, ↓zfh, ↓zfn, ↓zga, ↓zfl, ↓zdp, ↓zdo, ↓zfm, ↓zff, ↓zfk, ↓zgc, ↓zfd, ↓zgd, ↓zfq, ↓or1, ↓and2, ↓or2, ↓zdr, ↓zfs, ↓zds, ↓zft, ↓zfg, ↓zeg, ↓zcr, ↓zfo, ↓zfj, ↓zgb, ↓zfr, ↓zer, ↓zbk, ↓zge, ↓zfz, ↓zfi, ↓zdm, ↓zfe, ↓zdn, ↓zca, ↓zcb, ↓zfa, ↓zfv, ↓zez, ↓zfw, ↓zfc, ↓zfu, ↓zfb, ↓zdj, ↓zcd, ↓zdk, ↓zbl, ↓zdy, ↓zcf, ↓zdz, ↓zcg, ↓zch, ↓zbz, ↓zcc, ↓zdi, ↓zei, ↓zeh, ↓zdx, ↓zdw, ↓zdu, ↓zdq, ↓zea, ↓zcs, ↓zct, ↓zen, ↓zbg, ↓zcv, ↓zcu, ↓zcx, ↓zce, ↓reduceIte, and_self, ↓zbt, ↓zcq, ↓zbs, ↓zbm, ↓zdl, ↓zdf, ↓zby, ↓zec, ↓zed, ↓zee, ↓zef, ↓zdv, ↓zdt, ↓zem, ↓zek, ↓zel, ↓zej, ↓zcl, ↓zeb, ↓zck, ↓zcn, ↓zco, ↓zcm, ↓zbo, ↓zcp, ↓zbn, ↓zbq, ↓zbr, ↓zbp, ↓zal, ↓zak, ↓zai, ↓zba, ↓zaj, ↓zax, ↓zaw, ↓zau, ↓zbe, ↓zav, ↓zad, ↓zac, ↓zaa, ↓zay, ↓zab, ↓zap, ↓zao, ↓zam, ↓zbb, ↓zan, ↓zat, ↓zas, ↓zaq, ↓zbc, ↓zar, ↓zah, ↓zag, ↓zae, ↓zaz, ↓zaf, Bool.not_true, Bool.not_false, Bool.false_eq_true, zbf, zbd, ↓sl0, ↓sl1, ↓sl2, ↓sl3, ↓sl4, ↓sl5, ↓sl6, ↓sl7, ↓sl8, true_and, and_true, zbj, decide_true, decide_false, List.getElem?_cons_zero, List.getElem?_cons_succ, List.set_cons_zero, List.set_cons_succ, tt32_30, tt32_15, tt32_29, tt32_12, tt32_31, tt32_14, tt32_27, tt32_26, tt32_23, tt32_22, tt32_25, tt32_24, tt32_16, tt32_21, tt32_19, tt32_18, tt32_13]
  have qe15 := k15.keep _ _ qe14
  refine sortR_v (ds := is.map qiD) (kf := fstD) (by simp only [srcOf, seqOf, qe15]) (by rw [List.length_map]; omega) (fun d hd => ?_) (by rw [map_fst]; exact so_ints) ?_
  · obtain ⟨p, _, rfl⟩ := List.mem_map.mp hd
    exact priority_e p _
  rw [map_fst, sortB_map (f := qiD) (kf := fun p : Int × Key => D.int p.1) (lt := fun a b => decide (a.1 < b.1)) fun a _ b _ => int_lt a.1 b.1]
  simp (maxSteps := 4000000) (disch := decide) only [↓zdg, ↓zdh, ↓zcw, ↓zeq, ↓zeo, ↓zep, ↓zbu, ↓zbv, ↓zcz, ↓zew, ↓zdc, ↓zex, ↓zdd, ↓zbw, ↓zev, ↓zeu, ↓zet, ↓zcy, ↓zda, ↓zdb, ↓zde, ↓zey, ↓zes, ↓zbi, ↓zfx, ↓zfy, ↓zci, ↓zcj, ↓zfp, ↓zbh, ↓zfh, ↓zfn, ↓zga, ↓zfl, ↓zdp, ↓zdo, ↓zfm, ↓zff, ↓zfk, ↓zgc, ↓zfd, ↓zgd, ↓zfq, ↓or1, ↓and2, ↓or2, ↓zdr, ↓zfs, ↓zds, ↓zft, ↓zfg, ↓zeg, ↓zcr, ↓zfo, ↓zfj, ↓zgb, ↓zfr, ↓zer, ↓zbk, ↓zge, ↓zfz, ↓zfi, ↓zdm, ↓zfe, ↓zdn, ↓zca, ↓zcb, ↓zfa, ↓zfv, ↓zez, ↓zfw, ↓zfc, ↓zfu, ↓zfb, ↓zdj, ↓zcd, ↓zdk, ↓zbl, ↓zdy, ↓zcf, ↓zdz, ↓zcg, ↓zch, ↓zbz, ↓zcc, ↓zdi, ↓zei, ↓zeh, ↓zdx, ↓zdw, ↓zdu, ↓zdq, ↓zea, ↓zcs, ↓zct, ↓zen, ↓zbg, ↓zcv, ↓zcu, ↓zcx, ↓zce, ↓reduceIte, and_self, ↓zbt, ↓zcq, ↓zbs, ↓zbm, ↓zdl, ↓zdf, ↓zby, ↓zec, ↓zed, ↓zee, ↓zef, ↓zdv, ↓zdt, ↓zem, ↓zek, ↓zel, ↓zej, ↓zcl, ↓zeb, ↓zck, ↓zcn, ↓zco, ↓zcm, ↓zbo, ↓zcp, ↓zbn, ↓zbq, ↓zbr, ↓zbp, ↓zal, ↓zak, ↓zai, ↓zba, ↓zaj, ↓zax, ↓zaw, ↓zau, ↓zbe, ↓zav, ↓zad, ↓zac, ↓zaa, ↓zay, ↓zab, ↓zap, ↓zao, ↓zam, ↓zbb, ↓zan, ↓zat, ↓zas, ↓zaq, ↓zbc, ↓zar, ↓zah, ↓zag, ↓zae, ↓zaz, ↓zaf, Bool.not_true, Bool.not_false, Bool.false_eq_true, zbf, zbd, ↓sl0, ↓sl1, ↓sl2, ↓sl3, ↓sl4, ↓sl5, ↓sl6, ↓sl7, ↓sl8, true_and, and_true, zbj, decide_true, decide_false, List.getElem?_cons_zero, List.getElem?_cons_succ, List.set_cons_zero, List.set_cons_succ, tt32_30, tt32_15, tt32_29, tt32_12, tt32_31, tt32_14, tt32_27, tt32_26, tt32_23, tt32_22, tt32_25, tt32_24, tt32_16, tt32_21, tt32_19, tt32_18, tt32_13, ↓tuple_v (seqOf_ref app_new)]
  have de16 := get_app (k := [OD.lst ((sortA (fun a b : Int × Key => decide (a.1 < b.1)) is).map qiD)]) (k15.keep _ _ de)
  refine members_v de16 (by omega) (by decide) db fun mn nn h17 mn0 me mnd mln mmm k17 => ?_
  try simp (maxSteps := 4000000) (disch := decide) only [↓zdg, ↓zdh, ↓zcw, ↓zeq, ↓zeo, ↓zep, ↓zbu, ↓zbv, ↓zcz, ↓zew, ↓zdc, ↓zex, ↓zdd, ↓zbw, ↓zev, ↓zeu, ↓zet, ↓zcy, ↓zda, ↓zdb, ↓zde, ↓zey, ↓zes, ↓zbi, ↓zfx, ↓zfy, ↓zci, ↓zcj, ↓zfp, ↓zbh, ↓zfh, ↓zfn, ↓zga, ↓zfl, ↓zdp, ↓zdo, ↓zfm, ↓zff, ↓zfk, ↓zgc, ↓zfd, ↓zgd, ↓zfq, ↓or1, ↓and2, ↓or2, ↓zdr, ↓zfs, ↓zds, ↓zft, ↓zfg, ↓zeg, ↓zcr, ↓zfo, ↓zfj, ↓zgb, ↓zfr, ↓zer, ↓zbk, ↓zge, ↓zfz, ↓zfi, ↓zdm, ↓zfe, ↓zdn, ↓zca, ↓zcb, ↓zfa, ↓zfv, ↓zez, ↓zfw, ↓zfc, ↓zfu, ↓zfb, ↓zdj, ↓zcd, ↓zdk, ↓zbl, ↓zdy, ↓zcf, ↓zdz, ↓zcg, ↓zch, ↓zbz, ↓zcc, ↓zdi, ↓zei, ↓zeh, ↓zdx, ↓zdw, ↓zdu, ↓zdq, ↓zea, ↓zcs, ↓zct, ↓zen, ↓zbg, ↓zcv, ↓zcu, ↓zcx, ↓zce, ↓reduceIte, and_self, ↓zbt, ↓zcq, ↓zbs, ↓zbm, ↓zdl, ↓zdf, ↓zby, ↓zec, ↓zed, ↓zee, ↓zef, ↓zdv, ↓zdt, ↓zem, ↓zek, ↓zel, ↓zej, ↓zcl, ↓zeb, ↓zck, ↓zcn, ↓zco, ↓zcm, ↓zbo, ↓zcp, ↓zbn, ↓zbq, ↓zbr, ↓zbp, ↓zal, ↓zak, ↓zai, ↓zba, ↓zaj, ↓zax, ↓zaw, ↓zau, ↓zbe, ↓zav, ↓zad, ↓zac, ↓zaa, ↓zay, ↓zab, ↓zap, ↓zao, ↓zam, ↓zbb, ↓zan, ↓zat, ↓zas, ↓zaq, ↓zbc, ↓zar, ↓zah, ↓zag, ↓zae, ↓zaz, ↓zaf, Bool.not_true, Bool.not_false, Bool.false_eq_true, zbf, zbd, ↓sl0, ↓sl1, ↓sl2, ↓sl3, ↓sl4, ↓sl5, ↓sl6, ↓sl7, ↓sl8, true_and, and_true, zbj, decide_true, decide_false, List.getElem?_cons_zero, List.getElem?_cons_succ, List.set_cons_zero, List.set_cons_succ, tt32_30, tt32_15, tt32_29, tt32_12, tt32_31, tt32_14, tt32_27, tt32_26, tt32_23, tt32_22, tt32_25, tt32_24, tt32_16, tt32_21, tt32_19, tt32_18, tt32_13]
  refine joined_v me mnd mln fun S h18 cS mS lS k18 => ?_
  have mS2 : ∀ x, memI S x ↔ memI iv x := fun x => (mS x).trans (mmm x)
  have K18 : Kp h14 h18 := ((k15.more).trans k17).trans k18
  have T18 := T14.kp K18
  try simp (maxSteps := 4000000) (disch := decide) only [↓zdg, ↓zdh, ↓zcw, ↓zeq, ↓zeo, ↓zep, ↓zbu, ↓zbv, ↓zcz, ↓zew, ↓zdc, ↓zex, ↓zdd, ↓zbw, ↓zev, ↓zeu, ↓zet, ↓zcy, ↓zda, ↓zdb, ↓zde, ↓zey, ↓zes, ↓zbi, ↓zfx, ↓zfy, ↓zci, ↓zcj, ↓zfp, ↓zbh, ↓zfh, ↓zfn, ↓zga, ↓zfl, ↓zdp, ↓zdo, ↓zfm, ↓zff, ↓zfk, ↓zgc, ↓zfd, ↓zgd, ↓zfq, ↓or1, ↓and2, ↓or2, ↓zdr, ↓zfs, ↓zds, ↓zft, ↓zfg, ↓zeg, ↓zcr, ↓zfo, ↓zfj, ↓zgb, ↓zfr, ↓zer, ↓zbk, ↓zge, ↓zfz, ↓zfi, ↓zdm, ↓zfe, ↓zdn, ↓zca, ↓zcb, ↓zfa, ↓zfv, ↓zez, ↓zfw, ↓zfc, ↓zfu, ↓zfb, ↓zdj, ↓zcd, ↓zdk, ↓zbl, ↓zdy, ↓zcf, ↓zdz, ↓zcg, ↓zch, ↓zbz, ↓zcc, ↓zdi, ↓zei, ↓zeh, ↓zdx, ↓zdw, ↓zdu, ↓zdq, ↓zea, ↓zcs, ↓zct, ↓zen, ↓zbg, ↓zcv, ↓zcu, ↓zcx, ↓zce, ↓reduceIte, and_self, ↓zbt, ↓zcq, ↓zbs, ↓zbm, ↓zdl, ↓zdf, ↓zby, ↓zec, ↓zed, ↓zee, ↓zef, ↓zdv, ↓zdt, ↓zem, ↓zek, ↓zel, ↓zej, ↓zcl, ↓zeb, ↓zck, ↓zcn, ↓zco, ↓zcm, ↓zbo, ↓zcp, ↓zbn, ↓zbq, ↓zbr, ↓zbp, ↓zal, ↓zak, ↓zai, ↓zba, ↓zaj, ↓zax, ↓zaw, ↓zau, ↓zbe, ↓zav, ↓zad, ↓zac, ↓zaa, ↓zay, ↓zab, ↓zap, ↓zao, ↓zam, ↓zbb, ↓zan, ↓zat, ↓zas, ↓zaq, ↓zbc, ↓zar, ↓zah, ↓zag, ↓zae, ↓zaz, ↓zaf, Bool.not_true, Bool.not_false, Bool.false_eq_true, zbf, zbd, ↓sl0, ↓sl1, ↓sl2, ↓sl3, ↓sl4, ↓sl5, ↓sl6, ↓sl7, ↓sl8, true_and, and_true, zbj, decide_true, decide_false, List.getElem?_cons_zero, List.getElem?_cons_succ, List.set_cons_zero, List.set_cons_succ]
  have mdl : ∀ x ∈ [D.tup (rs.map teD), .tup ((srtK (tabOf es)).map prD), .tup ((srtQ is).map qiD), .tup (S.map ipD)], MadeD x := fun x hx => by
    simp only [List.mem_cons, List.not_mem_nil, or_false] at hx
    rcases hx with rfl | rfl | rfl | rfl
    · exact made_of (g := id) (fun _ => rfl) (by omega)
    · exact made_of (g := fun p => .pr p.1 p.2) (fun _ => rfl) (by unfold srtK; rw [sortA_len]; omega)
    · exact made_of (g := fun p => .pr (.inl p.1) p.2) (fun _ => rfl) (by unfold srtQ; rw [sortA_len]; omega)
    · exact made_of (g := fun p => .pr (.inl p.1) (.inl p.2)) (fun _ => rfl) (by omega)
  have me19 : (h18 ++ [OD.lst [D.tup (rs.map teD), .tup ((srtK (tabOf es)).map prD), .tup ((srtQ is).map qiD), .tup (S.map ipD)]])[h18.length]? = some (.lst [D.tup (rs.map teD), .tup ((srtK (tabOf es)).map prD), .tup ((srtQ is).map qiD), .tup (S.map ipD)]) := app_new
  have el19 := get_app (k := [OD.lst [D.tup (rs.map teD), .tup ((srtK (tabOf es)).map prD), .tup ((srtQ is).map qiD), .tup (S.map ipD)]]) (K18.keep _ _ el14)
  have qe19 := get_app (k := [OD.lst [D.tup (rs.map teD), .tup ((srtK (tabOf es)).map prD), .tup ((srtQ is).map qiD), .tup (S.map ipD)]]) (K18.keep _ _ qe14)
  have de19 := get_app (k := [OD.lst [D.tup (rs.map teD), .tup ((srtK (tabOf es)).map prD), .tup ((srtQ is).map qiD), .tup (S.map ipD)]]) (K18.keep _ _ de)
  have T19 : Tape t (h18 ++ [OD.lst [D.tup (rs.map teD), .tup ((srtK (tabOf es)).map prD), .tup ((srtQ is).map qiD), .tup (S.map ipD)]]) := T18.app
  have mt : h18.length ≠ t := Nat.ne_of_gt T18.lt
  change nxK _ _ _ _ (h18 ++ [OD.lst [D.tup (rs.map teD), .tup ((srtK (tabOf es)).map prD), .tup ((srtQ is).map qiD), .tup (S.map ipD)]])
  generalize h18 ++ [OD.lst [D.tup (rs.map teD), .tup ((srtK (tabOf es)).map prD), .tup ((srtQ is).map qiD), .tup (S.map ipD)]] = h19 at me19 el19 qe19 de19 T19 ⊢
  generalize h18.length = mdn at me19 mt ⊢
  try simp (maxSteps := 4000000) (disch := decide) only [↓zdg, ↓zdh, ↓zcw, ↓zeq, ↓zeo, ↓zep, ↓zbu, ↓zbv, ↓zcz, ↓zew, ↓zdc, ↓zex, ↓zdd, ↓zbw, ↓zev, ↓zeu, ↓zet, ↓zcy, ↓zda, ↓zdb, ↓zde, ↓zey, ↓zes, ↓zbi, ↓zfx, ↓zfy, ↓zci, ↓zcj, ↓zfp, ↓zbh, ↓zfh, ↓zfn, ↓zga, ↓zfl, ↓zdp, ↓zdo, ↓zfm, ↓zff, ↓zfk, ↓zgc, ↓zfd, ↓zgd, ↓zfq, ↓or1, ↓and2, ↓or2, ↓zdr, ↓zfs, ↓zds, ↓zft, ↓zfg, ↓zeg, ↓zcr, ↓zfo, ↓zfj, ↓zgb, ↓zfr, ↓zer, ↓zbk, ↓zge, ↓zfz, ↓zfi, ↓zdm, ↓zfe, ↓zdn, ↓zca, ↓zcb, ↓zfa, ↓zfv, ↓zez, ↓zfw, ↓zfc, ↓zfu, ↓zfb, ↓zdj, ↓zcd, ↓zdk, ↓zbl, ↓zdy, ↓zcf, ↓zdz, ↓zcg, ↓zch, ↓zbz, ↓zcc, ↓zdi, ↓zei, ↓zeh, ↓zdx, ↓zdw, ↓zdu, ↓zdq, ↓zea, ↓zcs, ↓zct, ↓zen, ↓zbg, ↓zcv, ↓zcu, ↓zcx, ↓zce, ↓reduceIte, and_self, ↓zbt, ↓zcq, ↓zbs, ↓zbm, ↓zdl, ↓zdf, ↓zby, ↓zec, ↓zed, ↓zee, ↓zef, ↓zdv, ↓zdt, ↓zem, ↓zek, ↓zel, ↓zej, ↓zcl, ↓zeb, ↓zck, ↓zcn, ↓zco, ↓zcm, ↓zbo, ↓zcp, ↓zbn, ↓zbq, ↓zbr, ↓zbp, ↓zal, ↓zak, ↓zai, ↓zba, ↓zaj, ↓zax, ↓zaw, ↓zau, ↓zbe, ↓zav, ↓zad, ↓zac, ↓zaa, ↓zay, ↓zab, ↓zap, ↓zao, ↓zam, ↓zbb, ↓zan, ↓zat, ↓zas, ↓zaq, ↓zbc, ↓zar, ↓zah, ↓zag, ↓zae, ↓zaz, ↓zaf, Bool.not_true, Bool.not_false, Bool.false_eq_true, zbf, zbd, ↓sl0, ↓sl1, ↓sl2, ↓sl3, ↓sl4, ↓sl5, ↓sl6, ↓sl7, ↓sl8, true_and, and_true, zbj, decide_true, decide_false, List.getElem?_cons_zero, List.getElem?_cons_succ, List.set_cons_zero, List.set_cons_succ, tt32_30, tt32_15, tt32_29, tt32_12, tt32_31, tt32_14, tt32_27, tt32_26, tt32_23, tt32_22, tt32_25, tt32_24, tt32_16, tt32_21, tt32_19, tt32_18, tt32_13, ↓tuple_v (seqOf_ref el19)]
  repeat (refine nx_nx.mpr ?_; simp (maxSteps := 4000000) (disch := decide) only [↓zdg, ↓zdh, ↓zcw, ↓zeq, ↓zeo, ↓zep, ↓zbu, ↓zbv, ↓zcz, ↓zew, ↓zdc, ↓zex, ↓zdd, ↓zbw, ↓zev, ↓zeu, ↓zet, ↓zcy, ↓zda, ↓zdb, ↓zde, ↓zey, ↓zes, ↓zbi, ↓zfx, ↓zfy, ↓zci, ↓zcj, ↓zfp, ↓zbh, ↓zfh, ↓zfn, ↓zga, ↓zfl, ↓zdp, ↓zdo, ↓zfm, ↓zff, ↓zfk, ↓zgc, ↓zfd, ↓zgd, ↓zfq, ↓or1, ↓and2, ↓or2, ↓zdr, ↓zfs, ↓zds, ↓zft, ↓zfg, ↓zeg, ↓zcr, ↓zfo, ↓zfj, ↓zgb, ↓zfr, ↓zer, ↓zbk, ↓zge, ↓zfz, ↓zfi, ↓zdm, ↓zfe, ↓zdn, ↓zca, ↓zcb, ↓zfa, ↓zfv, ↓zez, ↓zfw, ↓zfc, ↓zfu, ↓zfb, ↓zdj, ↓zcd, ↓zdk, ↓zbl, ↓zdy, ↓zcf, ↓zdz, ↓zcg, ↓zch, ↓zbz, ↓zcc, ↓zdi, ↓zei, ↓zeh, ↓zdx, ↓zdw, ↓zdu, ↓zdq, ↓zea, ↓zcs, ↓zct, ↓zen, ↓zbg, ↓zcv, ↓zcu, ↓zcx, ↓zce, ↓reduceIte, and_self, ↓zbt, ↓zcq, ↓zbs, ↓zbm, ↓zdl, ↓zdf, ↓zby, ↓zec, ↓zed, ↓zee, ↓zef, ↓zdv, ↓zdt, ↓zem, ↓zek, ↓zel, ↓zej, ↓zcl, ↓zeb, ↓zck, ↓zcn, ↓zco, ↓zcm, ↓zbo, ↓zcp, ↓zbn, ↓zbq, ↓zbr, ↓zbp, ↓zal, ↓zak, ↓zai, ↓zba, ↓zaj, ↓zax, ↓zaw, ↓zau, ↓zbe, ↓zav, ↓zad, ↓zac, ↓zaa, ↓zay, ↓zab, ↓zap, ↓zao, ↓zam, ↓zbb, ↓zan, ↓zat, ↓zas, ↓zaq, ↓zbc, ↓zar, ↓zah, ↓zag, ↓zae, ↓zaz, ↓zaf, Bool.not_true, Bool.not_false, Bool.false_eq_true, zbf, zbd, ↓sl0, ↓sl1, ↓sl2, ↓sl3, ↓sl4, ↓sl5, ↓sl6, ↓sl7, ↓sl8, true_and, and_true, zbj, decide_true, decide_false, List.getElem?_cons_zero, List.getElem?_cons_succ, List.set_cons_zero, List.set_cons_succ, tt32_30, tt32_15, tt32_29, tt32_12, tt32_31, tt32_14, tt32_27, tt32_26, tt32_23, tt32_22, tt32_25, tt32_24, tt32_16, tt32_21, tt32_19, tt32_18, tt32_13, ↓tuple_v (seqOf_ref el19)])
  refine told_v (k := .str "map") (v := .tup ((srtK (tabOf es)).map prD)) (fun {E P} q => contents_map (by omega) q) fun h20 k20 => ?_
  try simp (maxSteps := 4000000) (disch := decide) only [↓zdg, ↓zdh, ↓zcw, ↓zeq, ↓zeo, ↓zep, ↓zbu, ↓zbv, ↓zcz, ↓zew, ↓zdc, ↓zex, ↓zdd, ↓zbw, ↓zev, ↓zeu, ↓zet, ↓zcy, ↓zda, ↓zdb, ↓zde, ↓zey, ↓zes, ↓zbi, ↓zfx, ↓zfy, ↓zci, ↓zcj, ↓zfp, ↓zbh, ↓zfh, ↓zfn, ↓zga, ↓zfl, ↓zdp, ↓zdo, ↓zfm, ↓zff, ↓zfk, ↓zgc, ↓zfd, ↓zgd, ↓zfq, ↓or1, ↓and2, ↓or2, ↓zdr, ↓zfs, ↓zds, ↓zft, ↓zfg, ↓zeg, ↓zcr, ↓zfo, ↓zfj, ↓zgb, ↓zfr, ↓zer, ↓zbk, ↓zge, ↓zfz, ↓zfi, ↓zdm, ↓zfe, ↓zdn, ↓zca, ↓zcb, ↓zfa, ↓zfv, ↓zez, ↓zfw, ↓zfc, ↓zfu, ↓zfb, ↓zdj, ↓zcd, ↓zdk, ↓zbl, ↓zdy, ↓zcf, ↓zdz, ↓zcg, ↓zch, ↓zbz, ↓zcc, ↓zdi, ↓zei, ↓zeh, ↓zdx, ↓zdw, ↓zdu, ↓zdq, ↓zea, ↓zcs, ↓zct, ↓zen, ↓zbg, ↓zcv, ↓zcu, ↓zcx, ↓zce, ↓reduceIte, and_self, ↓zbt, ↓zcq, ↓zbs, ↓zbm, ↓zdl, ↓zdf, ↓zby, ↓zec, ↓zed, ↓zee, ↓zef, ↓zdv, ↓zdt, ↓zem, ↓zek, ↓zel, ↓zej, ↓zcl, ↓zeb, ↓zck, ↓zcn, ↓zco, ↓zcm, ↓zbo, ↓zcp, ↓zbn, ↓zbq, ↓zbr, ↓zbp, ↓zal, ↓zak, ↓zai, ↓zba, ↓zaj, ↓zax, ↓zaw, ↓zau, ↓zbe, ↓zav, ↓zad, ↓zac, ↓zaa, ↓zay, ↓zab, ↓zap, ↓zao, ↓zam, ↓zbb, ↓zan, ↓zat, ↓zas, ↓zaq, ↓zbc, ↓zar, ↓zah, ↓zag, ↓zae, ↓zaz, ↓zaf, Bool.not_true, Bool.not_false, Bool.false_eq_true, zbf, zbd, ↓sl0, ↓sl1, ↓sl2, ↓sl3, ↓sl4, ↓sl5, ↓sl6, ↓sl7, ↓sl8, true_and, and_true, zbj, decide_true, decide_false, List.getElem?_cons_zero, List.getElem?_cons_succ, List.set_cons_zero, List.set_cons_succ, tt32_30, tt32_15, tt32_29, tt32_12, tt32_31, tt32_14, tt32_27, tt32_26, tt32_23, tt32_22, tt32_25, tt32_24, tt32_16, tt32_21, tt32_19, tt32_18, tt32_13, ↓tuple_v (seqOf_ref (k20.keep _ _ qe19))]
  refine told_v (k := .str "queue") (v := .tup ((srtQ is).map qiD)) (fun {E P} q => contents_que (by omega) q) fun h21 k21 => ?_
  have K21 := k20.trans k21
  have me21 := K21.keep _ _ me19
  have lk : (srtK (tabOf es)).length ≤ 100000 := by unfold srtK; rw [sortA_len]; omega
  have lq : (srtQ is).length ≤ 100000 := by unfold srtQ; rw [sortA_len]; omega
  try simp (maxSteps := 4000000) (disch := decide) only [↓zdg, ↓zdh, ↓zcw, ↓zeq, ↓zeo, ↓zep, ↓zbu, ↓zbv, ↓zcz, ↓zew, ↓zdc, ↓zex, ↓zdd, ↓zbw, ↓zev, ↓zeu, ↓zet, ↓zcy, ↓zda, ↓zdb, ↓zde, ↓zey, ↓zes, ↓zbi, ↓zfx, ↓zfy, ↓zci, ↓zcj, ↓zfp, ↓zbh, ↓zfh, ↓zfn, ↓zga, ↓zfl, ↓zdp, ↓zdo, ↓zfm, ↓zff, ↓zfk, ↓zgc, ↓zfd, ↓zgd, ↓zfq, ↓or1, ↓and2, ↓or2, ↓zdr, ↓zfs, ↓zds, ↓zft, ↓zfg, ↓zeg, ↓zcr, ↓zfo, ↓zfj, ↓zgb, ↓zfr, ↓zer, ↓zbk, ↓zge, ↓zfz, ↓zfi, ↓zdm, ↓zfe, ↓zdn, ↓zca, ↓zcb, ↓zfa, ↓zfv, ↓zez, ↓zfw, ↓zfc, ↓zfu, ↓zfb, ↓zdj, ↓zcd, ↓zdk, ↓zbl, ↓zdy, ↓zcf, ↓zdz, ↓zcg, ↓zch, ↓zbz, ↓zcc, ↓zdi, ↓zei, ↓zeh, ↓zdx, ↓zdw, ↓zdu, ↓zdq, ↓zea, ↓zcs, ↓zct, ↓zen, ↓zbg, ↓zcv, ↓zcu, ↓zcx, ↓zce, ↓reduceIte, and_self, ↓zbt, ↓zcq, ↓zbs, ↓zbm, ↓zdl, ↓zdf, ↓zby, ↓zec, ↓zed, ↓zee, ↓zef, ↓zdv, ↓zdt, ↓zem, ↓zek, ↓zel, ↓zej, ↓zcl, ↓zeb, ↓zck, ↓zcn, ↓zco, ↓zcm, ↓zbo, ↓zcp, ↓zbn, ↓zbq, ↓zbr, ↓zbp, ↓zal, ↓zak, ↓zai, ↓zba, ↓zaj, ↓zax, ↓zaw, ↓zau, ↓zbe, ↓zav, ↓zad, ↓zac, ↓zaa, ↓zay, ↓zab, ↓zap, ↓zao, ↓zam, ↓zbb, ↓zan, ↓zat, ↓zas, ↓zaq, ↓zbc, ↓zar, ↓zah, ↓zag, ↓zae, ↓zaz, ↓zaf, Bool.not_true, Bool.not_false, Bool.false_eq_true, zbf, zbd, ↓sl0, ↓sl1, ↓sl2, ↓sl3, ↓sl4, ↓sl5, ↓sl6, ↓sl7, ↓sl8, true_and, and_true, zbj, decide_true, decide_false, List.getElem?_cons_zero, List.getElem?_cons_succ, List.set_cons_zero, List.set_cons_succ, tt32_30, tt32_15, tt32_29, tt32_12, tt32_31, tt32_14, tt32_27, tt32_26, tt32_23, tt32_22, tt32_25, tt32_24, tt32_16, tt32_21, tt32_19, tt32_18, tt32_13, ↓ix_ref me21 atI_1, ↓ix_ref me21 atI_2]
  repeat (refine nx_nx.mpr ?_; simp (maxSteps := 4000000) (disch := decide) only [↓zdg, ↓zdh, ↓zcw, ↓zeq, ↓zeo, ↓zep, ↓zbu, ↓zbv, ↓zcz, ↓zew, ↓zdc, ↓zex, ↓zdd, ↓zbw, ↓zev, ↓zeu, ↓zet, ↓zcy, ↓zda, ↓zdb, ↓zde, ↓zey, ↓zes, ↓zbi, ↓zfx, ↓zfy, ↓zci, ↓zcj, ↓zfp, ↓zbh, ↓zfh, ↓zfn, ↓zga, ↓zfl, ↓zdp, ↓zdo, ↓zfm, ↓zff, ↓zfk, ↓zgc, ↓zfd, ↓zgd, ↓zfq, ↓or1, ↓and2, ↓or2, ↓zdr, ↓zfs, ↓zds, ↓zft, ↓zfg, ↓zeg, ↓zcr, ↓zfo, ↓zfj, ↓zgb, ↓zfr, ↓zer, ↓zbk, ↓zge, ↓zfz, ↓zfi, ↓zdm, ↓zfe, ↓zdn, ↓zca, ↓zcb, ↓zfa, ↓zfv, ↓zez, ↓zfw, ↓zfc, ↓zfu, ↓zfb, ↓zdj, ↓zcd, ↓zdk, ↓zbl, ↓zdy, ↓zcf, ↓zdz, ↓zcg, ↓zch, ↓zbz, ↓zcc, ↓zdi, ↓zei, ↓zeh, ↓zdx, ↓zdw, ↓zdu, ↓zdq, ↓zea, ↓zcs, ↓zct, ↓zen, ↓zbg, ↓zcv, ↓zcu, ↓zcx, ↓zce, ↓reduceIte, and_self, ↓zbt, ↓zcq, ↓zbs, ↓zbm, ↓zdl, ↓zdf, ↓zby, ↓zec, ↓zed, ↓zee, ↓zef, ↓zdv, ↓zdt, ↓zem, ↓zek, ↓zel, ↓zej, ↓zcl, ↓zeb, ↓zck, ↓zcn, ↓zco, ↓zcm, ↓zbo, ↓zcp, ↓zbn, ↓zbq, ↓zbr, ↓zbp, ↓zal, ↓zak, ↓zai, ↓zba, ↓zaj, ↓zax, ↓zaw, ↓zau, ↓zbe, ↓zav, ↓zad, ↓zac, ↓zaa, ↓zay, ↓zab, ↓zap, ↓zao, ↓zam, ↓zbb, ↓zan, ↓zat, ↓zas, ↓zaq, ↓zbc, ↓zar, ↓zah, ↓zag, ↓zae, ↓zaz, ↓zaf, Bool.not_true, Bool.not_false, Bool.false_eq_true, zbf, zbd, ↓sl0, ↓sl1, ↓sl2, ↓sl3, ↓sl4, ↓sl5, ↓sl6, ↓sl7, ↓sl8, true_and, and_true, zbj, decide_true, decide_false, List.getElem?_cons_zero, List.getElem?_cons_succ, List.set_cons_zero, List.set_cons_succ, tt32_30, tt32_15, tt32_29, tt32_12, tt32_31, tt32_14, tt32_27, tt32_26, tt32_23, tt32_22, tt32_25, tt32_24, tt32_16, tt32_21, tt32_19, tt32_18, tt32_13, ↓ix_ref me21 atI_1, ↓ix_ref me21 atI_2])
  refine alike_v (vd_l2 (vd_l2 (.str _ _) (vd_map lk fun a => vd_pr _ a)) (vd_l2 (.str _ _) (vd_map lq fun a => vd_qi _ a))) fun h22 k22 => ?_
  have K22 := K21.trans k22
  try simp (maxSteps := 4000000) (disch := decide) only [↓zdg, ↓zdh, ↓zcw, ↓zeq, ↓zeo, ↓zep, ↓zbu, ↓zbv, ↓zcz, ↓zew, ↓zdc, ↓zex, ↓zdd, ↓zbw, ↓zev, ↓zeu, ↓zet, ↓zcy, ↓zda, ↓zdb, ↓zde, ↓zey, ↓zes, ↓zbi, ↓zfx, ↓zfy, ↓zci, ↓zcj, ↓zfp, ↓zbh, ↓zfh, ↓zfn, ↓zga, ↓zfl, ↓zdp, ↓zdo, ↓zfm, ↓zff, ↓zfk, ↓zgc, ↓zfd, ↓zgd, ↓zfq, ↓or1, ↓and2, ↓or2, ↓zdr, ↓zfs, ↓zds, ↓zft, ↓zfg, ↓zeg, ↓zcr, ↓zfo, ↓zfj, ↓zgb, ↓zfr, ↓zer, ↓zbk, ↓zge, ↓zfz, ↓zfi, ↓zdm, ↓zfe, ↓zdn, ↓zca, ↓zcb, ↓zfa, ↓zfv, ↓zez, ↓zfw, ↓zfc, ↓zfu, ↓zfb, ↓zdj, ↓zcd, ↓zdk, ↓zbl, ↓zdy, ↓zcf, ↓zdz, ↓zcg, ↓zch, ↓zbz, ↓zcc, ↓zdi, ↓zei, ↓zeh, ↓zdx, ↓zdw, ↓zdu, ↓zdq, ↓zea, ↓zcs, ↓zct, ↓zen, ↓zbg, ↓zcv, ↓zcu, ↓zcx, ↓zce, ↓reduceIte, and_self, ↓zbt, ↓zcq, ↓zbs, ↓zbm, ↓zdl, ↓zdf, ↓zby, ↓zec, ↓zed, ↓zee, ↓zef, ↓zdv, ↓zdt, ↓zem, ↓zek, ↓zel, ↓zej, ↓zcl, ↓zeb, ↓zck, ↓zcn, ↓zco, ↓zcm, ↓zbo, ↓zcp, ↓zbn, ↓zbq, ↓zbr, ↓zbp, ↓zal, ↓zak, ↓zai, ↓zba, ↓zaj, ↓zax, ↓zaw, ↓zau, ↓zbe, ↓zav, ↓zad, ↓zac, ↓zaa, ↓zay, ↓zab, ↓zap, ↓zao, ↓zam, ↓zbb, ↓zan, ↓zat, ↓zas, ↓zaq, ↓zbc, ↓zar, ↓zah, ↓zag, ↓zae, ↓zaz, ↓zaf, Bool.not_true, Bool.not_false, Bool.false_eq_true, zbf, zbd, ↓sl0, ↓sl1, ↓sl2, ↓sl3, ↓sl4, ↓sl5, ↓sl6, ↓sl7, ↓sl8, true_and, and_true, zbj, decide_true, decide_false, List.getElem?_cons_zero, List.getElem?_cons_succ, List.set_cons_zero, List.set_cons_succ, tt32_30, tt32_15, tt32_29, tt32_12, tt32_31, tt32_14, tt32_27, tt32_26, tt32_23, tt32_22, tt32_25, tt32_24, tt32_16, tt32_21, tt32_19, tt32_18, tt32_13, ↓tuple_v (seqOf_ref (K22.keep _ _ de19))]
  repeat (refine nx_nx.mpr ?_; simp (maxSteps := 4000000) (disch := decide) only [↓zdg, ↓zdh, ↓zcw, ↓zeq, ↓zeo, ↓zep, ↓zbu, ↓zbv, ↓zcz, ↓zew, ↓zdc, ↓zex, ↓zdd, ↓zbw, ↓zev, ↓zeu, ↓zet, ↓zcy, ↓zda, ↓zdb, ↓zde, ↓zey, ↓zes, ↓zbi, ↓zfx, ↓zfy, ↓zci, ↓zcj, ↓zfp, ↓zbh, ↓zfh, ↓zfn, ↓zga, ↓zfl, ↓zdp, ↓zdo, ↓zfm, ↓zff, ↓zfk, ↓zgc, ↓zfd, ↓zgd, ↓zfq, ↓or1, ↓and2, ↓or2, ↓zdr, ↓zfs, ↓zds, ↓zft, ↓zfg, ↓zeg, ↓zcr, ↓zfo, ↓zfj, ↓zgb, ↓zfr, ↓zer, ↓zbk, ↓zge, ↓zfz, ↓zfi, ↓zdm, ↓zfe, ↓zdn, ↓zca, ↓zcb, ↓zfa, ↓zfv, ↓zez, ↓zfw, ↓zfc, ↓zfu, ↓zfb, ↓zdj, ↓zcd, ↓zdk, ↓zbl, ↓zdy, ↓zcf, ↓zdz, ↓zcg, ↓zch, ↓zbz, ↓zcc, ↓zdi, ↓zei, ↓zeh, ↓zdx, ↓zdw, ↓zdu, ↓zdq, ↓zea, ↓zcs, ↓zct, ↓zen, ↓zbg, ↓zcv, ↓zcu, ↓zcx, ↓zce, ↓reduceIte, and_self, ↓zbt, ↓zcq, ↓zbs, ↓zbm, ↓zdl, ↓zdf, ↓zby, ↓zec, ↓zed, ↓zee, ↓zef, ↓zdv, ↓zdt, ↓zem, ↓zek, ↓zel, ↓zej, ↓zcl, ↓zeb, ↓zck, ↓zcn, ↓zco, ↓zcm, ↓zbo, ↓zcp, ↓zbn, ↓zbq, ↓zbr, ↓zbp, ↓zal, ↓zak, ↓zai, ↓zba, ↓zaj, ↓zax, ↓zaw, ↓zau, ↓zbe, ↓zav, ↓zad, ↓zac, ↓zaa, ↓zay, ↓zab, ↓zap, ↓zao, ↓zam, ↓zbb, ↓zan, ↓zat, ↓zas, ↓zaq, ↓zbc, ↓zar, ↓zah, ↓zag, ↓zae, ↓zaz, ↓zaf, Bool.not_true, Bool.not_false, Bool.false_eq_true, zbf, zbd, ↓sl0, ↓sl1, ↓sl2, ↓sl3, ↓sl4, ↓sl5, ↓sl6, ↓sl7, ↓sl8, true_and, and_true, zbj, decide_true, decide_false, List.getElem?_cons_zero, List.getElem?_cons_succ, List.set_cons_zero, List.set_cons_succ, tt32_30, tt32_15, tt32_29, tt32_12, tt32_31, tt32_14, tt32_27, tt32_26, tt32_23, tt32_22, tt32_25, tt32_24, tt32_16, tt32_21, tt32_19, tt32_18, tt32_13, ↓tuple_v (seqOf_ref (K22.keep _ _ de19))])
  refine told_v (k := .str "intervals") (v := .tup (S.map ipD)) (fun {E P} q => contents_ivl (by omega) (fun p hp => (db p hp).2.1) cS mS2 q) fun h23 k23 => ?_
  have K23 := K22.trans k23
  try simp (maxSteps := 4000000) (disch := decide) only [↓zdg, ↓zdh, ↓zcw, ↓zeq, ↓zeo, ↓zep, ↓zbu, ↓zbv, ↓zcz, ↓zew, ↓zdc, ↓zex, ↓zdd, ↓zbw, ↓zev, ↓zeu, ↓zet, ↓zcy, ↓zda, ↓zdb, ↓zde, ↓zey, ↓zes, ↓zbi, ↓zfx, ↓zfy, ↓zci, ↓zcj, ↓zfp, ↓zbh, ↓zfh, ↓zfn, ↓zga, ↓zfl, ↓zdp, ↓zdo, ↓zfm, ↓zff, ↓zfk, ↓zgc, ↓zfd, ↓zgd, ↓zfq, ↓or1, ↓and2, ↓or2, ↓zdr, ↓zfs, ↓zds, ↓zft, ↓zfg, ↓zeg, ↓zcr, ↓zfo, ↓zfj, ↓zgb, ↓zfr, ↓zer, ↓zbk, ↓zge, ↓zfz, ↓zfi, ↓zdm, ↓zfe, ↓zdn, ↓zca, ↓zcb, ↓zfa, ↓zfv, ↓zez, ↓zfw, ↓zfc, ↓zfu, ↓zfb, ↓zdj, ↓zcd, ↓zdk, ↓zbl, ↓zdy, ↓zcf, ↓zdz, ↓zcg, ↓zch, ↓zbz, ↓zcc, ↓zdi, ↓zei, ↓zeh, ↓zdx, ↓zdw, ↓zdu, ↓zdq, ↓zea, ↓zcs, ↓zct, ↓zen, ↓zbg, ↓zcv, ↓zcu, ↓zcx, ↓zce, ↓reduceIte, and_self, ↓zbt, ↓zcq, ↓zbs, ↓zbm, ↓zdl, ↓zdf, ↓zby, ↓zec, ↓zed, ↓zee, ↓zef, ↓zdv, ↓zdt, ↓zem, ↓zek, ↓zel, ↓zej, ↓zcl, ↓zeb, ↓zck, ↓zcn, ↓zco, ↓zcm, ↓zbo, ↓zcp, ↓zbn, ↓zbq, ↓zbr, ↓zbp, ↓zal, ↓zak, ↓zai, ↓zba, ↓zaj, ↓zax, ↓zaw, ↓zau, ↓zbe, ↓zav, ↓zad, ↓zac, ↓zaa, ↓zay, ↓zab, ↓zap, ↓zao, ↓zam, ↓zbb, ↓zan, ↓zat, ↓zas, ↓zaq, ↓zbc, ↓zar, ↓zah, ↓zag, ↓zae, ↓zaz, ↓zaf, Bool.not_true, Bool.not_false, Bool.false_eq_true, zbf, zbd, ↓sl0, ↓sl1, ↓sl2, ↓sl3, ↓sl4, ↓sl5, ↓sl6, ↓sl7, ↓sl8, true_and, and_true, zbj, decide_true, decide_false, List.getElem?_cons_zero, List.getElem?_cons_succ, List.set_cons_zero, List.set_cons_succ, tt32_30, tt32_15, tt32_29, tt32_12, tt32_31, tt32_14, tt32_27, tt32_26, tt32_23, tt32_22, tt32_25, tt32_24, tt32_16, tt32_21, tt32_19, tt32_18, tt32_13, ↓ix_ref (K23.keep _ _ me19) atI_3]
  refine alike_v (vd_l2 (.str _ _) (vd_map (by omega) fun a => vd_ip _ a)) fun h24 k24 => ?_
  have K24 := K23.trans k24
  try simp (maxSteps := 4000000) (disch := decide) only [↓zdg, ↓zdh, ↓zcw, ↓zeq, ↓zeo, ↓zep, ↓zbu, ↓zbv, ↓zcz, ↓zew, ↓zdc, ↓zex, ↓zdd, ↓zbw, ↓zev, ↓zeu, ↓zet, ↓zcy, ↓zda, ↓zdb, ↓zde, ↓zey, ↓zes, ↓zbi, ↓zfx, ↓zfy, ↓zci, ↓zcj, ↓zfp, ↓zbh, ↓zfh, ↓zfn, ↓zga, ↓zfl, ↓zdp, ↓zdo, ↓zfm, ↓zff, ↓zfk, ↓zgc, ↓zfd, ↓zgd, ↓zfq, ↓or1, ↓and2, ↓or2, ↓zdr, ↓zfs, ↓zds, ↓zft, ↓zfg, ↓zeg, ↓zcr, ↓zfo, ↓zfj, ↓zgb, ↓zfr, ↓zer, ↓zbk, ↓zge, ↓zfz, ↓zfi, ↓zdm, ↓zfe, ↓zdn, ↓zca, ↓zcb, ↓zfa, ↓zfv, ↓zez, ↓zfw, ↓zfc, ↓zfu, ↓zfb, ↓zdj, ↓zcd, ↓zdk, ↓zbl, ↓zdy, ↓zcf, ↓zdz, ↓zcg, ↓zch, ↓zbz, ↓zcc, ↓zdi, ↓zei, ↓zeh, ↓zdx, ↓zdw, ↓zdu, ↓zdq, ↓zea, ↓zcs, ↓zct, ↓zen, ↓zbg, ↓zcv, ↓zcu, ↓zcx, ↓zce, ↓reduceIte, and_self, ↓zbt, ↓zcq, ↓zbs, ↓zbm, ↓zdl, ↓zdf, ↓zby, ↓zec, ↓zed, ↓zee, ↓zef, ↓zdv, ↓zdt, ↓zem, ↓zek, ↓zel, ↓zej, ↓zcl, ↓zeb, ↓zck, ↓zcn, ↓zco, ↓zcm, ↓zbo, ↓zcp, ↓zbn, ↓zbq, ↓zbr, ↓zbp, ↓zal, ↓zak, ↓zai, ↓zba, ↓zaj, ↓zax, ↓zaw, ↓zau, ↓zbe, ↓zav, ↓zad, ↓zac, ↓zaa, ↓zay, ↓zab, ↓zap, ↓zao, ↓zam, ↓zbb, ↓zan, ↓zat, ↓zas, ↓zaq, ↓zbc, ↓zar, ↓zah, ↓zag, ↓zae, ↓zaz, ↓zaf, Bool.not_true, Bool.not_false, Bool.false_eq_true, zbf, zbd, ↓sl0, ↓sl1, ↓sl2, ↓sl3, ↓sl4, ↓sl5, ↓sl6, ↓sl7, ↓sl8, true_and, and_true, zbj, decide_true, decide_false, List.getElem?_cons_zero, List.getElem?_cons_succ, List.set_cons_zero, List.set_cons_succ, tt32_30, tt32_15, tt32_29, tt32_12, tt32_31, tt32_14, tt32_27, tt32_26, tt32_23, tt32_22, tt32_25, tt32_24, tt32_16, tt32_21, tt32_19, tt32_18, tt32_13, ↓tuple_v (seqOf_ref (K24.keep _ _ de19))]
  repeat (refine nx_nx.mpr ?_; simp (maxSteps := 4000000) (disch := decide) only [↓zdg, ↓zdh, ↓zcw, ↓zeq, ↓zeo, ↓zep, ↓zbu, ↓zbv, ↓zcz, ↓zew, ↓zdc, ↓zex, ↓zdd, ↓zbw, ↓zev, ↓zeu, ↓zet, ↓zcy, ↓zda, ↓zdb, ↓zde, ↓zey, ↓zes, ↓zbi, ↓zfx, ↓zfy, ↓zci, ↓zcj, ↓zfp, ↓zbh, ↓zfh, ↓zfn, ↓zga, ↓zfl, ↓zdp, ↓zdo, ↓zfm, ↓zff, ↓zfk, ↓zgc, ↓zfd, ↓zgd, ↓zfq, ↓or1, ↓and2, ↓or2, ↓zdr, ↓zfs, ↓zds, ↓zft, ↓zfg, ↓zeg, ↓zcr, ↓zfo, ↓zfj, ↓zgb, ↓zfr, ↓zer, ↓zbk, ↓zge, ↓zfz, ↓zfi, ↓zdm, ↓zfe, ↓zdn, ↓zca, ↓zcb, ↓zfa, ↓zfv, ↓zez, ↓zfw, ↓zfc, ↓zfu, ↓zfb, ↓zdj, ↓zcd, ↓zdk, ↓zbl, ↓zdy, ↓zcf, ↓zdz, ↓zcg, ↓zch, ↓zbz, ↓zcc, ↓zdi, ↓zei, ↓zeh, ↓zdx, ↓zdw, ↓zdu, ↓zdq, ↓zea, ↓zcs, ↓zct, ↓zen, ↓zbg, ↓zcv, ↓zcu, ↓zcx, ↓zce, ↓reduceIte, and_self, ↓zbt, ↓zcq, ↓zbs, ↓zbm, ↓zdl, ↓zdf, ↓zby, ↓zec, ↓zed, ↓zee, ↓zef, ↓zdv, ↓zdt, ↓zem, ↓zek, ↓zel, ↓zej, ↓zcl, ↓zeb, ↓zck, ↓zcn, ↓zco, ↓zcm, ↓zbo, ↓zcp, ↓zbn, ↓zbq, ↓zbr, ↓zbp, ↓zal, ↓zak, ↓zai, ↓zba, ↓zaj, ↓zax, ↓zaw, ↓zau, ↓zbe, ↓zav, ↓zad, ↓zac, ↓zaa, ↓zay, ↓zab, ↓zap, ↓zao, ↓zam, ↓zbb, ↓zan, ↓zat, ↓zas, ↓zaq, ↓zbc, ↓zar, ↓zah, ↓zag, ↓zae, ↓zaz, ↓zaf, Bool.not_true, Bool.not_false, Bool.false_eq_true, zbf, zbd, ↓sl0, ↓sl1, ↓sl2, ↓sl3, ↓sl4, ↓sl5, ↓sl6, ↓sl7, ↓sl8, true_and, and_true, zbj, decide_true, decide_false, List.getElem?_cons_zero, List.getElem?_cons_succ, List.set_cons_zero, List.set_cons_succ, tt32_30, tt32_15, tt32_29, tt32_12, tt32_31, tt32_14, tt32_27, tt32_26, tt32_23, tt32_22, tt32_25, tt32_24, tt32_16, tt32_21, tt32_19, tt32_18, tt32_13, ↓tuple_v (seqOf_ref (K24.keep _ _ de19))])
  refine draw_v (T19.kp K24) (by decide) (by decide) fun w h25 w0 w1 T25 f25 => ?_
  try simp (maxSteps := 4000000) (disch := decide) only [↓zdg, ↓zdh, ↓zcw, ↓zeq, ↓zeo, ↓zep, ↓zbu, ↓zbv, ↓zcz, ↓zew, ↓zdc, ↓zex, ↓zdd, ↓zbw, ↓zev, ↓zeu, ↓zet, ↓zcy, ↓zda, ↓zdb, ↓zde, ↓zey, ↓zes, ↓zbi, ↓zfx, ↓zfy, ↓zci, ↓zcj, ↓zfp, ↓zbh, ↓zfh, ↓zfn, ↓zga, ↓zfl, ↓zdp, ↓zdo, ↓zfm, ↓zff, ↓zfk, ↓zgc, ↓zfd, ↓zgd, ↓zfq, ↓or1, ↓and2, ↓or2, ↓zdr, ↓zfs, ↓zds, ↓zft, ↓zfg, ↓zeg, ↓zcr, ↓zfo, ↓zfj, ↓zgb, ↓zfr, ↓zer, ↓zbk, ↓zge, ↓zfz, ↓zfi, ↓zdm, ↓zfe, ↓zdn, ↓zca, ↓zcb, ↓zfa, ↓zfv, ↓zez, ↓zfw, ↓zfc, ↓zfu, ↓zfb, ↓zdj, ↓zcd, ↓zdk, ↓zbl, ↓zdy, ↓zcf, ↓zdz, ↓zcg, ↓zch, ↓zbz, ↓zcc, ↓zdi, ↓zei, ↓zeh, ↓zdx, ↓zdw, ↓zdu, ↓zdq, ↓zea, ↓zcs, ↓zct, ↓zen, ↓zbg, ↓zcv, ↓zcu, ↓zcx, ↓zce, ↓reduceIte, and_self, ↓zbt, ↓zcq, ↓zbs, ↓zbm, ↓zdl, ↓zdf, ↓zby, ↓zec, ↓zed, ↓zee, ↓zef, ↓zdv, ↓zdt, ↓zem, ↓zek, ↓zel, ↓zej, ↓zcl, ↓zeb, ↓zck, ↓zcn, ↓zco, ↓zcm, ↓zbo, ↓zcp, ↓zbn, ↓zbq, ↓zbr, ↓zbp, ↓zal, ↓zak, ↓zai, ↓zba, ↓zaj, ↓zax, ↓zaw, ↓zau, ↓zbe, ↓zav, ↓zad, ↓zac, ↓zaa, ↓zay, ↓zab, ↓zap, ↓zao, ↓zam, ↓zbb, ↓zan, ↓zat, ↓zas, ↓zaq, ↓zbc, ↓zar, ↓zah, ↓zag, ↓zae, ↓zaz, ↓zaf, Bool.not_true, Bool.not_false, Bool.false_eq_true, zbf, zbd, ↓sl0, ↓sl1, ↓sl2, ↓sl3, ↓sl4, ↓sl5, ↓sl6, ↓sl7, ↓sl8, true_and, and_true, zbj, decide_true, decide_false, List.getElem?_cons_zero, List.getElem?_cons_succ, List.set_cons_zero, List.set_cons_succ, tt32_30, tt32_15, tt32_29, tt32_12, tt32_31, tt32_14, tt32_27, tt32_26, tt32_23, tt32_22, tt32_25, tt32_24, tt32_16, tt32_21, tt32_19, tt32_18, tt32_13]
  refine (add_tt (sz (by simp; omega))).mpr ?_
  have e25 : iv.map ipD ++ [D.tup [.int 4, .int (4 - w)]] = (iv ++ [(4, 4 - w)]).map ipD := by rw [List.map_append]; rfl
  rw [e25]
  refine empty_v (k := .str "intervals") (fun {E P} q => contents_ivl_x (by omega) (fun p hp => (db p hp).2.1) (by show 4 - w ≤ 4; omega) q) ?_
  try simp (maxSteps := 4000000) (disch := decide) only [↓zdg, ↓zdh, ↓zcw, ↓zeq, ↓zeo, ↓zep, ↓zbu, ↓zbv, ↓zcz, ↓zew, ↓zdc, ↓zex, ↓zdd, ↓zbw, ↓zev, ↓zeu, ↓zet, ↓zcy, ↓zda, ↓zdb, ↓zde, ↓zey, ↓zes, ↓zbi, ↓zfx, ↓zfy, ↓zci, ↓zcj, ↓zfp, ↓zbh, ↓zfh, ↓zfn, ↓zga, ↓zfl, ↓zdp, ↓zdo, ↓zfm, ↓zff, ↓zfk, ↓zgc, ↓zfd, ↓zgd, ↓zfq, ↓or1, ↓and2, ↓or2, ↓zdr, ↓zfs, ↓zds, ↓zft, ↓zfg, ↓zeg, ↓zcr, ↓zfo, ↓zfj, ↓zgb, ↓zfr, ↓zer, ↓zbk, ↓zge, ↓zfz, ↓zfi, ↓zdm, ↓zfe, ↓zdn, ↓zca, ↓zcb, ↓zfa, ↓zfv, ↓zez, ↓zfw, ↓zfc, ↓zfu, ↓zfb, ↓zdj, ↓zcd, ↓zdk, ↓zbl, ↓zdy, ↓zcf, ↓zdz, ↓zcg, ↓zch, ↓zbz, ↓zcc, ↓zdi, ↓zei, ↓zeh, ↓zdx, ↓zdw, ↓zdu, ↓zdq, ↓zea, ↓zcs, ↓zct, ↓zen, ↓zbg, ↓zcv, ↓zcu, ↓zcx, ↓zce, ↓reduceIte, and_self, ↓zbt, ↓zcq, ↓zbs, ↓zbm, ↓zdl, ↓zdf, ↓zby, ↓zec, ↓zed, ↓zee, ↓zef, ↓zdv, ↓zdt, ↓zem, ↓zek, ↓zel, ↓zej, ↓zcl, ↓zeb, ↓zck, ↓zcn, ↓zco, ↓zcm, ↓zbo, ↓zcp, ↓zbn, ↓zbq, ↓zbr, ↓zbp, ↓zal, ↓zak, ↓zai, ↓zba, ↓zaj, ↓zax, ↓zaw, ↓zau, ↓zbe, ↓zav, ↓zad, ↓zac, ↓zaa, ↓zay, ↓zab, ↓zap, ↓zao, ↓zam, ↓zbb, ↓zan, ↓zat, ↓zas, ↓zaq, ↓zbc, ↓zar, ↓zah, ↓zag, ↓zae, ↓zaz, ↓zaf, Bool.not_true, Bool.not_false, Bool.false_eq_true, zbf, zbd, ↓sl0, ↓sl1, ↓sl2, ↓sl3, ↓sl4, ↓sl5, ↓sl6, ↓sl7, ↓sl8, true_and, and_true, zbj, decide_true, decide_false, List.getElem?_cons_zero, List.getElem?_cons_succ, List.set_cons_zero, List.set_cons_succ, tt32_30, tt32_15, tt32_29, tt32_12, tt32_31, tt32_14, tt32_27, tt32_26, tt32_23, tt32_22, tt32_25, tt32_24, tt32_16, tt32_21, tt32_19, tt32_18, tt32_13]
  refine alike_v (vd_l2 (.str _ _) (.bl _ _)) fun h26 k26 => ?_
  have me26 := k26.keep _ _ (f25.keep _ _ mt (K24.keep _ _ me19))
  have T26 := T25.kp k26
  try simp (maxSteps := 4000000) (disch := decide) only [↓zdg, ↓zdh, ↓zcw, ↓zeq, ↓zeo, ↓zep, ↓zbu, ↓zbv, ↓zcz, ↓zew, ↓zdc, ↓zex, ↓zdd, ↓zbw, ↓zev, ↓zeu, ↓zet, ↓zcy, ↓zda, ↓zdb, ↓zde, ↓zey, ↓zes, ↓zbi, ↓zfx, ↓zfy, ↓zci, ↓zcj, ↓zfp, ↓zbh, ↓zfh, ↓zfn, ↓zga, ↓zfl, ↓zdp, ↓zdo, ↓zfm, ↓zff, ↓zfk, ↓zgc, ↓zfd, ↓zgd, ↓zfq, ↓or1, ↓and2, ↓or2, ↓zdr, ↓zfs, ↓zds, ↓zft, ↓zfg, ↓zeg, ↓zcr, ↓zfo, ↓zfj, ↓zgb, ↓zfr, ↓zer, ↓zbk, ↓zge, ↓zfz, ↓zfi, ↓zdm, ↓zfe, ↓zdn, ↓zca, ↓zcb, ↓zfa, ↓zfv, ↓zez, ↓zfw, ↓zfc, ↓zfu, ↓zfb, ↓zdj, ↓zcd, ↓zdk, ↓zbl, ↓zdy, ↓zcf, ↓zdz, ↓zcg, ↓zch, ↓zbz, ↓zcc, ↓zdi, ↓zei, ↓zeh, ↓zdx, ↓zdw, ↓zdu, ↓zdq, ↓zea, ↓zcs, ↓zct, ↓zen, ↓zbg, ↓zcv, ↓zcu, ↓zcx, ↓zce, ↓reduceIte, and_self, ↓zbt, ↓zcq, ↓zbs, ↓zbm, ↓zdl, ↓zdf, ↓zby, ↓zec, ↓zed, ↓zee, ↓zef, ↓zdv, ↓zdt, ↓zem, ↓zek, ↓zel, ↓zej, ↓zcl, ↓zeb, ↓zck, ↓zcn, ↓zco, ↓zcm, ↓zbo, ↓zcp, ↓zbn, ↓zbq, ↓zbr, ↓zbp, ↓zal, ↓zak, ↓zai, ↓zba, ↓zaj, ↓zax, ↓zaw, ↓zau, ↓zbe, ↓zav, ↓zad, ↓zac, ↓zaa, ↓zay, ↓zab, ↓zap, ↓zao, ↓zam, ↓zbb, ↓zan, ↓zat, ↓zas, ↓zaq, ↓zbc, ↓zar, ↓zah, ↓zag, ↓zae, ↓zaz, ↓zaf, Bool.not_true, Bool.not_false, Bool.false_eq_true, zbf, zbd, ↓sl0, ↓sl1, ↓sl2, ↓sl3, ↓sl4, ↓sl5, ↓sl6, ↓sl7, ↓sl8, true_and, and_true, zbj, decide_true, decide_false, List.getElem?_cons_zero, List.getElem?_cons_succ, List.set_cons_zero, List.set_cons_succ, tt32_30, tt32_15, tt32_29, tt32_12, tt32_31, tt32_14, tt32_27, tt32_26, tt32_23, tt32_22, tt32_25, tt32_24, tt32_16, tt32_21, tt32_19, tt32_18, tt32_13, ↓it_ref me26]
  repeat (refine nx_nx.mpr ?_; simp (maxSteps := 4000000) (disch := decide) only [↓zdg, ↓zdh, ↓zcw, ↓zeq, ↓zeo, ↓zep, ↓zbu, ↓zbv, ↓zcz, ↓zew, ↓zdc, ↓zex, ↓zdd, ↓zbw, ↓zev, ↓zeu, ↓zet, ↓zcy, ↓zda, ↓zdb, ↓zde, ↓zey, ↓zes, ↓zbi, ↓zfx, ↓zfy, ↓zci, ↓zcj, ↓zfp, ↓zbh, ↓zfh, ↓zfn, ↓zga, ↓zfl, ↓zdp, ↓zdo, ↓zfm, ↓zff, ↓zfk, ↓zgc, ↓zfd, ↓zgd, ↓zfq, ↓or1, ↓and2, ↓or2, ↓zdr, ↓zfs, ↓zds, ↓zft, ↓zfg, ↓zeg, ↓zcr, ↓zfo, ↓zfj, ↓zgb, ↓zfr, ↓zer, ↓zbk, ↓zge, ↓zfz, ↓zfi, ↓zdm, ↓zfe, ↓zdn, ↓zca, ↓zcb, ↓zfa, ↓zfv, ↓zez, ↓zfw, ↓zfc, ↓zfu, ↓zfb, ↓zdj, ↓zcd, ↓zdk, ↓zbl, ↓zdy, ↓zcf, ↓zdz, ↓zcg, ↓zch, ↓zbz, ↓zcc, ↓zdi, ↓zei, ↓zeh, ↓zdx, ↓zdw, ↓zdu, ↓zdq, ↓zea, ↓zcs, ↓zct, ↓zen, ↓zbg, ↓zcv, ↓zcu, ↓zcx, ↓zce, ↓reduceIte, and_self, ↓zbt, ↓zcq, ↓zbs, ↓zbm, ↓zdl, ↓zdf, ↓zby, ↓zec, ↓zed, ↓zee, ↓zef, ↓zdv, ↓zdt, ↓zem, ↓zek, ↓zel, ↓zej, ↓zcl, ↓zeb, ↓zck, ↓zcn, ↓zco, ↓zcm, ↓zbo, ↓zcp, ↓zbn, ↓zbq, ↓zbr, ↓zbp, ↓zal, ↓zak, ↓zai, ↓zba, ↓zaj, ↓zax, ↓zaw, ↓zau, ↓zbe, ↓zav, ↓zad, ↓zac, ↓zaa, ↓zay, ↓zab, ↓zap, ↓zao, ↓zam, ↓zbb, ↓zan, ↓zat, ↓zas, ↓zaq, ↓zbc, ↓zar, ↓zah, ↓zag, ↓zae, ↓zaz, ↓zaf, Bool.not_true, Bool.not_false, Bool.false_eq_true, zbf, zbd, ↓sl0, ↓sl1, ↓sl2, ↓sl3, ↓sl4, ↓sl5, ↓sl6, ↓sl7, ↓sl8, true_and, and_true, zbj, decide_true, decide_false, List.getElem?_cons_zero, List.getElem?_cons_succ, List.set_cons_zero, List.set_cons_succ, tt32_30, tt32_15, tt32_29, tt32_12, tt32_31, tt32_14, tt32_27, tt32_26, tt32_23, tt32_22, tt32_25, tt32_24, tt32_16, tt32_21, tt32_19, tt32_18, tt32_13, ↓it_ref me26])
  clear K18 T18 K21 K22 K23 K24 e25
  generalize [D.tup (rs.map teD), .tup ((srtK (tabOf es)).map prD), .tup ((srtQ is).map qiD), .tup (S.map ipD)] = mds at me26 mdl ⊢
  refine for_sat (fun i τ hh => Tape t hh ∧ hh[mdn]? = some (.lst mds) ∧ ∃ z0 z2 z3 z4 z5 z6 z7 z8 z9 z11 z12 z13 z14 z15 z16, τ = [z0, some (.ref t), z2, z3, z4, z5, z6, z7, z8, z9, some (.ref mdn), z11, z12, z13, z14, z15, z16]) ⟨T26, me26, _, _, _, _, _, _, _, _, _, _, _, _, _, _, _, rfl⟩ (fun i τ hh _ ⟨_, e, _⟩ p hp => by rw [List.mem_singleton.mp hp]; exact e) (fun i τ hh dd hd ⟨T', e', z0, z2, z3, z4, z5, z6, z7, z8, z9, z11, z12, z13, z14, z15, z16, eτ⟩ => ?_) fun τ hh ⟨T', e', z0, z2, z3, z4, z5, z6, z7, z8, z9, z11, z12, z13, z14, z15, z16, eτ⟩ => ?_
  rotate_left
  · subst eτ
    try simp (maxSteps := 4000000) (disch := decide) only [↓zdg, ↓zdh, ↓zcw, ↓zeq, ↓zeo, ↓zep, ↓zbu, ↓zbv, ↓zcz, ↓zew, ↓zdc, ↓zex, ↓zdd, ↓zbw, ↓zev, ↓zeu, ↓zet, ↓zcy, ↓zda, ↓zdb, ↓zde, ↓zey, ↓zes, ↓zbi, ↓zfx, ↓zfy, ↓zci, ↓zcj, ↓zfp, ↓zbh, ↓zfh, ↓zfn, ↓zga, ↓zfl, ↓zdp, ↓zdo, ↓zfm, ↓zff, ↓zfk, ↓zgc, ↓zfd, ↓zgd, ↓zfq, ↓or1, ↓and2, ↓or2, ↓zdr, ↓zfs, ↓zds, ↓zft, ↓zfg, ↓zeg, ↓zcr, ↓zfo, ↓zfj, ↓zgb, ↓zfr, ↓zer, ↓zbk, ↓zge, ↓zfz, ↓zfi, ↓zdm, ↓zfe, ↓zdn, ↓zca, ↓zcb, ↓zfa, ↓zfv, ↓zez, ↓zfw, ↓zfc, ↓zfu, ↓zfb, ↓zdj, ↓zcd, ↓zdk, ↓zbl, ↓zdy, ↓zcf, ↓zdz, ↓zcg, ↓zch, ↓zbz, ↓zcc, ↓zdi, ↓zei, ↓zeh, ↓zdx, ↓zdw, ↓zdu, ↓zdq, ↓zea, ↓zcs, ↓zct, ↓zen, ↓zbg, ↓zcv, ↓zcu, ↓zcx, ↓zce, ↓reduceIte, and_self, ↓zbt, ↓zcq, ↓zbs, ↓zbm, ↓zdl, ↓zdf, ↓zby, ↓zec, ↓zed, ↓zee, ↓zef, ↓zdv, ↓zdt, ↓zem, ↓zek, ↓zel, ↓zej, ↓zcl, ↓zeb, ↓zck, ↓zcn, ↓zco, ↓zcm, ↓zbo, ↓zcp, ↓zbn, ↓zbq, ↓zbr, ↓zbp, ↓zal, ↓zak, ↓zai, ↓zba, ↓zaj, ↓zax, ↓zaw, ↓zau, ↓zbe, ↓zav, ↓zad, ↓zac, ↓zaa, ↓zay, ↓zab, ↓zap, ↓zao, ↓zam, ↓zbb, ↓zan, ↓zat, ↓zas, ↓zaq, ↓zbc, ↓zar, ↓zah, ↓zag, ↓zae, ↓zaz, ↓zaf, Bool.not_true, Bool.not_false, Bool.false_eq_true, zbf, zbd, ↓sl0, ↓sl1, ↓sl2, ↓sl3, ↓sl4, ↓sl5, ↓sl6, ↓sl7, ↓sl8, true_and, and_true, zbj, decide_true, decide_false, List.getElem?_cons_zero, List.getElem?_cons_succ, List.set_cons_zero, List.set_cons_succ]
    repeat (refine nx_nx.mpr ?_; simp (maxSteps := 4000000) (disch := decide) only [↓zdg, ↓zdh, ↓zcw, ↓zeq, ↓zeo, ↓zep, ↓zbu, ↓zbv, ↓zcz, ↓zew, ↓zdc, ↓zex, ↓zdd, ↓zbw, ↓zev, ↓zeu, ↓zet, ↓zcy, ↓zda, ↓zdb, ↓zde, ↓zey, ↓zes, ↓zbi, ↓zfx, ↓zfy, ↓zci, ↓zcj, ↓zfp, ↓zbh, ↓zfh, ↓zfn, ↓zga, ↓zfl, ↓zdp, ↓zdo, ↓zfm, ↓zff, ↓zfk, ↓zgc, ↓zfd, ↓zgd, ↓zfq, ↓or1, ↓and2, ↓or2, ↓zdr, ↓zfs, ↓zds, ↓zft, ↓zfg, ↓zeg, ↓zcr, ↓zfo, ↓zfj, ↓zgb, ↓zfr, ↓zer, ↓zbk, ↓zge, ↓zfz, ↓zfi, ↓zdm, ↓zfe, ↓zdn, ↓zca, ↓zcb, ↓zfa, ↓zfv, ↓zez, ↓zfw, ↓zfc, ↓zfu, ↓zfb, ↓zdj, ↓zcd, ↓zdk, ↓zbl, ↓zdy, ↓zcf, ↓zdz, ↓zcg, ↓zch, ↓zbz, ↓zcc, ↓zdi, ↓zei, ↓zeh, ↓zdx, ↓zdw, ↓zdu, ↓zdq, ↓zea, ↓zcs, ↓zct, ↓zen, ↓zbg, ↓zcv, ↓zcu, ↓zcx, ↓zce, ↓reduceIte, and_self, ↓zbt, ↓zcq, ↓zbs, ↓zbm, ↓zdl, ↓zdf, ↓zby, ↓zec, ↓zed, ↓zee, ↓zef, ↓zdv, ↓zdt, ↓zem, ↓zek, ↓zel, ↓zej, ↓zcl, ↓zeb, ↓zck, ↓zcn, ↓zco, ↓zcm, ↓zbo, ↓zcp, ↓zbn, ↓zbq, ↓zbr, ↓zbp, ↓zal, ↓zak, ↓zai, ↓zba, ↓zaj, ↓zax, ↓zaw, ↓zau, ↓zbe, ↓zav, ↓zad, ↓zac, ↓zaa, ↓zay, ↓zab, ↓zap, ↓zao, ↓zam, ↓zbb, ↓zan, ↓zat, ↓zas, ↓zaq, ↓zbc, ↓zar, ↓zah, ↓zag, ↓zae, ↓zaz, ↓zaf, Bool.not_true, Bool.not_false, Bool.false_eq_true, zbf, zbd, ↓sl0, ↓sl1, ↓sl2, ↓sl3, ↓sl4, ↓sl5, ↓sl6, ↓sl7, ↓sl8, true_and, and_true, zbj, decide_true, decide_false, List.getElem?_cons_zero, List.getElem?_cons_succ, List.set_cons_zero, List.set_cons_succ])
  subst eτ
  obtain ⟨cs, rfl, lcs⟩ := mdl dd (List.mem_of_getElem? hd)
  refine ⟨_, rfl, ?_⟩
  simp (maxSteps := 4000000) (disch := decide) only [↓zdg, ↓zdh, ↓zcw, ↓zeq, ↓zeo, ↓zep, ↓zbu, ↓zbv, ↓zcz, ↓zew, ↓zdc, ↓zex, ↓zdd, ↓zbw, ↓zev, ↓zeu, ↓zet, ↓zcy, ↓zda, ↓zdb, ↓zde, ↓zey, ↓zes, ↓zbi, ↓zfx, ↓zfy, ↓zci, ↓zcj, ↓zfp, ↓zbh, ↓zfh, ↓zfn, ↓zga, ↓zfl, ↓zdp, ↓zdo, ↓zfm, ↓zff, ↓zfk, ↓zgc, ↓zfd, ↓zgd, ↓zfq, ↓or1, ↓and2, ↓or2, ↓zdr, ↓zfs, ↓zds, ↓zft, ↓zfg, ↓zeg, ↓zcr, ↓zfo, ↓zfj, ↓zgb, ↓zfr, ↓zer, ↓zbk, ↓zge, ↓zfz, ↓zfi, ↓zdm, ↓zfe, ↓zdn, ↓zca, ↓zcb, ↓zfa, ↓zfv, ↓zez, ↓zfw, ↓zfc, ↓zfu, ↓zfb, ↓zdj, ↓zcd, ↓zdk, ↓zbl, ↓zdy, ↓zcf, ↓zdz, ↓zcg, ↓zch, ↓zbz, ↓zcc, ↓zdi, ↓zei, ↓zeh, ↓zdx, ↓zdw, ↓zdu, ↓zdq, ↓zea, ↓zcs, ↓zct, ↓zen, ↓zbg, ↓zcv, ↓zcu, ↓zcx, ↓zce, ↓reduceIte, and_self, ↓zbt, ↓zcq, ↓zbs, ↓zbm, ↓zdl, ↓zdf, ↓zby, ↓zec, ↓zed, ↓zee, ↓zef, ↓zdv, ↓zdt, ↓zem, ↓zek, ↓zel, ↓zej, ↓zcl, ↓zeb, ↓zck, ↓zcn, ↓zco, ↓zcm, ↓zbo, ↓zcp, ↓zbn, ↓zbq, ↓zbr, ↓zbp, ↓zal, ↓zak, ↓zai, ↓zba, ↓zaj, ↓zax, ↓zaw, ↓zau, ↓zbe, ↓zav, ↓zad, ↓zac, ↓zaa, ↓zay, ↓zab, ↓zap, ↓zao, ↓zam, ↓zbb, ↓zan, ↓zat, ↓zas, ↓zaq, ↓zbc, ↓zar, ↓zah, ↓zag, ↓zae, ↓zaz, ↓zaf, Bool.not_true, Bool.not_false, Bool.false_eq_true, zbf, zbd, ↓sl0, ↓sl1, ↓sl2, ↓sl3, ↓sl4, ↓sl5, ↓sl6, ↓sl7, ↓sl8, true_and, and_true, zbj, decide_true, decide_false, List.getElem?_cons_zero, List.getElem?_cons_succ, List.set_cons_zero, List.set_cons_succ, tt32_30, tt32_15, tt32_29, tt32_12, tt32_31, tt32_14, tt32_27, tt32_26, tt32_23, tt32_22, tt32_25, tt32_24, tt32_16, tt32_21, tt32_19, tt32_18, tt32_13]
  refine spoilt_v T' lcs fun sp h27 lsp T27 f27 => ?_
  simp (maxSteps := 4000000) (disch := decide) only [↓zdg, ↓zdh, ↓zcw, ↓zeq, ↓zeo, ↓zep, ↓zbu, ↓zbv, ↓zcz, ↓zew, ↓zdc, ↓zex, ↓zdd, ↓zbw, ↓zev, ↓zeu, ↓zet, ↓zcy, ↓zda, ↓zdb, ↓zde, ↓zey, ↓zes, ↓zbi, ↓zfx, ↓zfy, ↓zci, ↓zcj, ↓zfp, ↓zbh, ↓zfh, ↓zfn, ↓zga, ↓zfl, ↓zdp, ↓zdo, ↓zfm, ↓zff, ↓zfk, ↓zgc, ↓zfd, ↓zgd, ↓zfq, ↓or1, ↓and2, ↓or2, ↓zdr, ↓zfs, ↓zds, ↓zft, ↓zfg, ↓zeg, ↓zcr, ↓zfo, ↓zfj, ↓zgb, ↓zfr, ↓zer, ↓zbk, ↓zge, ↓zfz, ↓zfi, ↓zdm, ↓zfe, ↓zdn, ↓zca, ↓zcb, ↓zfa, ↓zfv, ↓zez, ↓zfw, ↓zfc, ↓zfu, ↓zfb, ↓zdj, ↓zcd, ↓zdk, ↓zbl, ↓zdy, ↓zcf, ↓zdz, ↓zcg, ↓zch, ↓zbz, ↓zcc, ↓zdi, ↓zei, ↓zeh, ↓zdx, ↓zdw, ↓zdu, ↓zdq, ↓zea, ↓zcs, ↓zct, ↓zen, ↓zbg, ↓zcv, ↓zcu, ↓zcx, ↓zce, ↓reduceIte, and_self, ↓zbt, ↓zcq, ↓zbs, ↓zbm, ↓zdl, ↓zdf, ↓zby, ↓zec, ↓zed, ↓zee, ↓zef, ↓zdv, ↓zdt, ↓zem, ↓zek, ↓zel, ↓zej, ↓zcl, ↓zeb, ↓zck, ↓zcn, ↓zco, ↓zcm, ↓zbo, ↓zcp, ↓zbn, ↓zbq, ↓zbr, ↓zbp, ↓zal, ↓zak, ↓zai, ↓zba, ↓zaj, ↓zax, ↓zaw, ↓zau, ↓zbe, ↓zav, ↓zad, ↓zac, ↓zaa, ↓zay, ↓zab, ↓zap, ↓zao, ↓zam, ↓zbb, ↓zan, ↓zat, ↓zas, ↓zaq, ↓zbc, ↓zar, ↓zah, ↓zag, ↓zae, ↓zaz, ↓zaf, Bool.not_true, Bool.not_false, Bool.false_eq_true, zbf, zbd, ↓sl0, ↓sl1, ↓sl2, ↓sl3, ↓sl4, ↓sl5, ↓sl6, ↓sl7, ↓sl8, true_and, and_true, zbj, decide_true, decide_false, List.getElem?_cons_zero, List.getElem?_cons_succ, List.set_cons_zero, List.set_cons_succ, tt32_30, tt32_15, tt32_29, tt32_12, tt32_31, tt32_14, tt32_27, tt32_26, tt32_23, tt32_22, tt32_25, tt32_24, tt32_16, tt32_21, tt32_19, tt32_18, tt32_13, ↓it_ref app_new]
  have e27 := app_at (k := [OD.lst [D.tup (cs.map teD), D.tup (sp.map teD)]]) (f27.keep _ _ mt e')
  have two : ∀ x ∈ [D.tup (cs.map teD), D.tup (sp.map teD)], ∃ es : List TEl, x = .tup (es.map teD) ∧ es.length ≤ 500000 := fun x hx => by
    simp only [List.mem_cons, List.not_mem_nil, or_false] at hx
    rcases hx with rfl | rfl
    · exact ⟨cs, rfl, by omega⟩
    · exact ⟨sp, rfl, lsp⟩
  refine for_sat (fun i τ hh => Tape t hh ∧ hh[mdn]? = some (.lst mds) ∧ hh[h27.length]? = some (.lst [D.tup (cs.map teD), D.tup (sp.map teD)]) ∧ ∃ z0 z2 z3 z4 z5 z6 z7 z8 z9 z11 z12 z13 z14 z15 z16, τ = [z0, some (.ref t), z2, z3, z4, z5, z6, z7, z8, z9, some (.ref mdn), z11, z12, z13, z14, z15, z16]) ⟨T27.app, e27, app_new, _, _, _, _, _, _, _, _, _, _, _, _, _, _, _, rfl⟩ (fun i τ hh _ ⟨_, _, e, _⟩ p hp => by rw [List.mem_singleton.mp hp]; exact e) (fun i τ hh dd hd ⟨T', e', e2, z0, z2, z3, z4, z5, z6, z7, z8, z9, z11, z12, z13, z14, z15, z16, eτ⟩ => ?_) fun τ hh ⟨T', e', e2, z0, z2, z3, z4, z5, z6, z7, z8, z9, z11, z12, z13, z14, z15, z16, eτ⟩ => ?_
  rotate_left
  · subst eτ
    try simp (maxSteps := 4000000) (disch := decide) only [↓zdg, ↓zdh, ↓zcw, ↓zeq, ↓zeo, ↓zep, ↓zbu, ↓zbv, ↓zcz, ↓zew, ↓zdc, ↓zex, ↓zdd, ↓zbw, ↓zev, ↓zeu, ↓zet, ↓zcy, ↓zda, ↓zdb, ↓zde, ↓zey, ↓zes, ↓zbi, ↓zfx, ↓zfy, ↓zci, ↓zcj, ↓zfp, ↓zbh, ↓zfh, ↓zfn, ↓zga, ↓zfl, ↓zdp, ↓zdo, ↓zfm, ↓zff, ↓zfk, ↓zgc, ↓zfd, ↓zgd, ↓zfq, ↓or1, ↓and2, ↓or2, ↓zdr, ↓zfs, ↓zds, ↓zft, ↓zfg, ↓zeg, ↓zcr, ↓zfo, ↓zfj, ↓zgb, ↓zfr, ↓zer, ↓zbk, ↓zge, ↓zfz, ↓zfi, ↓zdm, ↓zfe, ↓zdn, ↓zca, ↓zcb, ↓zfa, ↓zfv, ↓zez, ↓zfw, ↓zfc, ↓zfu, ↓zfb, ↓zdj, ↓zcd, ↓zdk, ↓zbl, ↓zdy, ↓zcf, ↓zdz, ↓zcg, ↓zch, ↓zbz, ↓zcc, ↓zdi, ↓zei, ↓zeh, ↓zdx, ↓zdw, ↓zdu, ↓zdq, ↓zea, ↓zcs, ↓zct, ↓zen, ↓zbg, ↓zcv, ↓zcu, ↓zcx, ↓zce, ↓reduceIte, and_self, ↓zbt, ↓zcq, ↓zbs, ↓zbm, ↓zdl, ↓zdf, ↓zby, ↓zec, ↓zed, ↓zee, ↓zef, ↓zdv, ↓zdt, ↓zem, ↓zek, ↓zel, ↓zej, ↓zcl, ↓zeb, ↓zck, ↓zcn, ↓zco, ↓zcm, ↓zbo, ↓zcp, ↓zbn, ↓zbq, ↓zbr, ↓zbp, ↓zal, ↓zak, ↓zai, ↓zba, ↓zaj, ↓zax, ↓zaw, ↓zau, ↓zbe, ↓zav, ↓zad, ↓zac, ↓zaa, ↓zay, ↓zab, ↓zap, ↓zao, ↓zam, ↓zbb, ↓zan, ↓zat, ↓zas, ↓zaq, ↓zbc, ↓zar, ↓zah, ↓zag, ↓zae, ↓zaz, ↓zaf, Bool.not_true, Bool.not_false, Bool.false_eq_true, zbf, zbd, ↓sl0, ↓sl1, ↓sl2, ↓sl3, ↓sl4, ↓sl5, ↓sl6, ↓sl7, ↓sl8, true_and, and_true, zbj, decide_true, decide_false, List.getElem?_cons_zero, List.getElem?_cons_succ, List.set_cons_zero, List.set_cons_succ]
    repeat (refine nx_nx.mpr ?_; simp (maxSteps := 4000000) (disch := decide) only [↓zdg, ↓zdh, ↓zcw, ↓zeq, ↓zeo, ↓zep, ↓zbu, ↓zbv, ↓zcz, ↓zew, ↓zdc, ↓zex, ↓zdd, ↓zbw, ↓zev, ↓zeu, ↓zet, ↓zcy, ↓zda, ↓zdb, ↓zde, ↓zey, ↓zes, ↓zbi, ↓zfx, ↓zfy, ↓zci, ↓zcj, ↓zfp, ↓zbh, ↓zfh, ↓zfn, ↓zga, ↓zfl, ↓zdp, ↓zdo, ↓zfm, ↓zff, ↓zfk, ↓zgc, ↓zfd, ↓zgd, ↓zfq, ↓or1, ↓and2, ↓or2, ↓zdr, ↓zfs, ↓zds, ↓zft, ↓zfg, ↓zeg, ↓zcr, ↓zfo, ↓zfj, ↓zgb, ↓zfr, ↓zer, ↓zbk, ↓zge, ↓zfz, ↓zfi, ↓zdm, ↓zfe, ↓zdn, ↓zca, ↓zcb, ↓zfa, ↓zfv, ↓zez, ↓zfw, ↓zfc, ↓zfu, ↓zfb, ↓zdj, ↓zcd, ↓zdk, ↓zbl, ↓zdy, ↓zcf, ↓zdz, ↓zcg, ↓zch, ↓zbz, ↓zcc, ↓zdi, ↓zei, ↓zeh, ↓zdx, ↓zdw, ↓zdu, ↓zdq, ↓zea, ↓zcs, ↓zct, ↓zen, ↓zbg, ↓zcv, ↓zcu, ↓zcx, ↓zce, ↓reduceIte, and_self, ↓zbt, ↓zcq, ↓zbs, ↓zbm, ↓zdl, ↓zdf, ↓zby, ↓zec, ↓zed, ↓zee, ↓zef, ↓zdv, ↓zdt, ↓zem, ↓zek, ↓zel, ↓zej, ↓zcl, ↓zeb, ↓zck, ↓zcn, ↓zco, ↓zcm, ↓zbo, ↓zcp, ↓zbn, ↓zbq, ↓zbr, ↓zbp, ↓zal, ↓zak, ↓zai, ↓zba, ↓zaj, ↓zax, ↓zaw, ↓zau, ↓zbe, ↓zav, ↓zad, ↓zac, ↓zaa, ↓zay, ↓zab, ↓zap, ↓zao, ↓zam, ↓zbb, ↓zan, ↓zat, ↓zas, ↓zaq, ↓zbc, ↓zar, ↓zah, ↓zag, ↓zae, ↓zaz, ↓zaf, Bool.not_true, Bool.not_false, Bool.false_eq_true, zbf, zbd, ↓sl0, ↓sl1, ↓sl2, ↓sl3, ↓sl4, ↓sl5, ↓sl6, ↓sl7, ↓sl8, true_and, and_true, zbj, decide_true, decide_false, List.getElem?_cons_zero, List.getElem?_cons_succ, List.set_cons_zero, List.set_cons_succ])
    exact ⟨T', e', _, _, _, _, _, _, _, _, _, _, _, _, _, _, _, rfl⟩
  subst eτ
  obtain ⟨as, rfl, las⟩ := two dd (List.mem_of_getElem? hd)
  refine ⟨_, rfl, ?_⟩
  simp (maxSteps := 4000000) (disch := decide) only [↓zdg, ↓zdh, ↓zcw, ↓zeq, ↓zeo, ↓zep, ↓zbu, ↓zbv, ↓zcz, ↓zew, ↓zdc, ↓zex, ↓zdd, ↓zbw, ↓zev, ↓zeu, ↓zet, ↓zcy, ↓zda, ↓zdb, ↓zde, ↓zey, ↓zes, ↓zbi, ↓zfx, ↓zfy, ↓zci, ↓zcj, ↓zfp, ↓zbh, ↓zfh, ↓zfn, ↓zga, ↓zfl, ↓zdp, ↓zdo, ↓zfm, ↓zff, ↓zfk, ↓zgc, ↓zfd, ↓zgd, ↓zfq, ↓or1, ↓and2, ↓or2, ↓zdr, ↓zfs, ↓zds, ↓zft, ↓zfg, ↓zeg, ↓zcr, ↓zfo, ↓zfj, ↓zgb, ↓zfr, ↓zer, ↓zbk, ↓zge, ↓zfz, ↓zfi, ↓zdm, ↓zfe, ↓zdn, ↓zca, ↓zcb, ↓zfa, ↓zfv, ↓zez, ↓zfw, ↓zfc, ↓zfu, ↓zfb, ↓zdj, ↓zcd, ↓zdk, ↓zbl, ↓zdy, ↓zcf, ↓zdz, ↓zcg, ↓zch, ↓zbz, ↓zcc, ↓zdi, ↓zei, ↓zeh, ↓zdx, ↓zdw, ↓zdu, ↓zdq, ↓zea, ↓zcs, ↓zct, ↓zen, ↓zbg, ↓zcv, ↓zcu, ↓zcx, ↓zce, ↓reduceIte, and_self, ↓zbt, ↓zcq, ↓zbs, ↓zbm, ↓zdl, ↓zdf, ↓zby, ↓zec, ↓zed, ↓zee, ↓zef, ↓zdv, ↓zdt, ↓zem, ↓zek, ↓zel, ↓zej, ↓zcl, ↓zeb, ↓zck, ↓zcn, ↓zco, ↓zcm, ↓zbo, ↓zcp, ↓zbn, ↓zbq, ↓zbr, ↓zbp, ↓zal, ↓zak, ↓zai, ↓zba, ↓zaj, ↓zax, ↓zaw, ↓zau, ↓zbe, ↓zav, ↓zad, ↓zac, ↓zaa, ↓zay, ↓zab, ↓zap, ↓zao, ↓zam, ↓zbb, ↓zan, ↓zat, ↓zas, ↓zaq, ↓zbc, ↓zar, ↓zah, ↓zag, ↓zae, ↓zaz, ↓zaf, Bool.not_true, Bool.not_false, Bool.false_eq_true, zbf, zbd, ↓sl0, ↓sl1, ↓sl2, ↓sl3, ↓sl4, ↓sl5, ↓sl6, ↓sl7, ↓sl8, true_and, and_true, zbj, decide_true, decide_false, List.getElem?_cons_zero, List.getElem?_cons_succ, List.set_cons_zero, List.set_cons_succ, tt32_30, tt32_15, tt32_29, tt32_12, tt32_31, tt32_14, tt32_27, tt32_26, tt32_23, tt32_22, tt32_25, tt32_24, tt32_16, tt32_21, tt32_19, tt32_18, tt32_13, ↓it_ref app_new]
  have kd_at : ∀ {i : Nat} {x : D}, ([D.str "sequence", .str "map", .str "queue", .str "intervals"] : List D)[i]? = some x → ∃ kd, kds[i]? = some kd ∧ x = kS kd := fun {i x} e => by
    have e' : (kds.map kS)[i]? = some x := e
    rw [List.getElem?_map] at e'
    cases q : kds[i]? with
    | none => rw [q] at e'; cases e'
    | some kd => rw [q] at e'; cases e'; exact ⟨kd, rfl, rfl⟩
  have fin : ∀ {hx hy : Hd}, Kp hx hy → Kp hh hx → Kp hh hy := fun a b => b.trans a
  refine vCo_no (fun i acc h' => acc = (kds.take i).map (fun kd => D.bl (vb as kd)) ∧ Kp (hh ++ [OD.lst [D.str "sequence", .str "map", .str "queue", .str "intervals"]]) h') ⟨rfl, .refl⟩ (fun i acc h' _ ⟨_, k⟩ p hp => by rw [List.mem_singleton.mp hp]; exact k.keep _ _ app_new) (fun i acc h' x hx ⟨ea, k⟩ => ?_) fun acc h28 ⟨ea, k28⟩ => ?_
  · obtain ⟨kd, e1, rfl⟩ := kd_at hx
    refine ⟨_, rfl, ?_⟩
    simp (maxSteps := 4000000) (disch := decide) only [↓zdg, ↓zdh, ↓zcw, ↓zeq, ↓zeo, ↓zep, ↓zbu, ↓zbv, ↓zcz, ↓zew, ↓zdc, ↓zex, ↓zdd, ↓zbw, ↓zev, ↓zeu, ↓zet, ↓zcy, ↓zda, ↓zdb, ↓zde, ↓zey, ↓zes, ↓zbi, ↓zfx, ↓zfy, ↓zci, ↓zcj, ↓zfp, ↓zbh, ↓zfh, ↓zfn, ↓zga, ↓zfl, ↓zdp, ↓zdo, ↓zfm, ↓zff, ↓zfk, ↓zgc, ↓zfd, ↓zgd, ↓zfq, ↓or1, ↓and2, ↓or2, ↓zdr, ↓zfs, ↓zds, ↓zft, ↓zfg, ↓zeg, ↓zcr, ↓zfo, ↓zfj, ↓zgb, ↓zfr, ↓zer, ↓zbk, ↓zge, ↓zfz, ↓zfi, ↓zdm, ↓zfe, ↓zdn, ↓zca, ↓zcb, ↓zfa, ↓zfv, ↓zez, ↓zfw, ↓zfc, ↓zfu, ↓zfb, ↓zdj, ↓zcd, ↓zdk, ↓zbl, ↓zdy, ↓zcf, ↓zdz, ↓zcg, ↓zch, ↓zbz, ↓zcc, ↓zdi, ↓zei, ↓zeh, ↓zdx, ↓zdw, ↓zdu, ↓zdq, ↓zea, ↓zcs, ↓zct, ↓zen, ↓zbg, ↓zcv, ↓zcu, ↓zcx, ↓zce, ↓reduceIte, and_self, ↓zbt, ↓zcq, ↓zbs, ↓zbm, ↓zdl, ↓zdf, ↓zby, ↓zec, ↓zed, ↓zee, ↓zef, ↓zdv, ↓zdt, ↓zem, ↓zek, ↓zel, ↓zej, ↓zcl, ↓zeb, ↓zck, ↓zcn, ↓zco, ↓zcm, ↓zbo, ↓zcp, ↓zbn, ↓zbq, ↓zbr, ↓zbp, ↓zal, ↓zak, ↓zai, ↓zba, ↓zaj, ↓zax, ↓zaw, ↓zau, ↓zbe, ↓zav, ↓zad, ↓zac, ↓zaa, ↓zay, ↓zab, ↓zap, ↓zao, ↓zam, ↓zbb, ↓zan, ↓zat, ↓zas, ↓zaq, ↓zbc, ↓zar, ↓zah, ↓zag, ↓zae, ↓zaz, ↓zaf, Bool.not_true, Bool.not_false, Bool.false_eq_true, zbf, zbd, ↓sl0, ↓sl1, ↓sl2, ↓sl3, ↓sl4, ↓sl5, ↓sl6, ↓sl7, ↓sl8, true_and, and_true, zbj, decide_true, decide_false, List.getElem?_cons_zero, List.getElem?_cons_succ, List.set_cons_zero, List.set_cons_succ, wipeD, tt32_30, tt32_15, tt32_29, tt32_12, tt32_31, tt32_14, tt32_27, tt32_26, tt32_23, tt32_22, tt32_25, tt32_24, tt32_16, tt32_21, tt32_19, tt32_18, tt32_13]
    refine is_valid_v las fun b h2 hb k2 => ?_
    exact ⟨by rw [ea, take_snoc e1, List.map_append, vb_of hb]; rfl, k.trans k2⟩
  have ea : acc = kds.map fun kd => D.bl (vb as kd) := ea
  subst ea
  refine ⟨by simp [kds]; exact sz (by decide), (tuple_v (seqOf_ref app_new)).mpr ?_⟩
  have K28 : Kp hh (h28 ++ [OD.lst (kds.map fun kd => D.bl (vb as kd))]) := (Kp.app.trans k28).more
  generalize h28 ++ [OD.lst (kds.map fun kd => D.bl (vb as kd))] = h29 at K28 ⊢
  try simp (maxSteps := 4000000) (disch := decide) only [↓zdg, ↓zdh, ↓zcw, ↓zeq, ↓zeo, ↓zep, ↓zbu, ↓zbv, ↓zcz, ↓zew, ↓zdc, ↓zex, ↓zdd, ↓zbw, ↓zev, ↓zeu, ↓zet, ↓zcy, ↓zda, ↓zdb, ↓zde, ↓zey, ↓zes, ↓zbi, ↓zfx, ↓zfy, ↓zci, ↓zcj, ↓zfp, ↓zbh, ↓zfh, ↓zfn, ↓zga, ↓zfl, ↓zdp, ↓zdo, ↓zfm, ↓zff, ↓zfk, ↓zgc, ↓zfd, ↓zgd, ↓zfq, ↓or1, ↓and2, ↓or2, ↓zdr, ↓zfs, ↓zds, ↓zft, ↓zfg, ↓zeg, ↓zcr, ↓zfo, ↓zfj, ↓zgb, ↓zfr, ↓zer, ↓zbk, ↓zge, ↓zfz, ↓zfi, ↓zdm, ↓zfe, ↓zdn, ↓zca, ↓zcb, ↓zfa, ↓zfv, ↓zez, ↓zfw, ↓zfc, ↓zfu, ↓zfb, ↓zdj, ↓zcd, ↓zdk, ↓zbl, ↓zdy, ↓zcf, ↓zdz, ↓zcg, ↓zch, ↓zbz, ↓zcc, ↓zdi, ↓zei, ↓zeh, ↓zdx, ↓zdw, ↓zdu, ↓zdq, ↓zea, ↓zcs, ↓zct, ↓zen, ↓zbg, ↓zcv, ↓zcu, ↓zcx, ↓zce, ↓reduceIte, and_self, ↓zbt, ↓zcq, ↓zbs, ↓zbm, ↓zdl, ↓zdf, ↓zby, ↓zec, ↓zed, ↓zee, ↓zef, ↓zdv, ↓zdt, ↓zem, ↓zek, ↓zel, ↓zej, ↓zcl, ↓zeb, ↓zck, ↓zcn, ↓zco, ↓zcm, ↓zbo, ↓zcp, ↓zbn, ↓zbq, ↓zbr, ↓zbp, ↓zal, ↓zak, ↓zai, ↓zba, ↓zaj, ↓zax, ↓zaw, ↓zau, ↓zbe, ↓zav, ↓zad, ↓zac, ↓zaa, ↓zay, ↓zab, ↓zap, ↓zao, ↓zam, ↓zbb, ↓zan, ↓zat, ↓zas, ↓zaq, ↓zbc, ↓zar, ↓zah, ↓zag, ↓zae, ↓zaz, ↓zaf, Bool.not_true, Bool.not_false, Bool.false_eq_true, zbf, zbd, ↓sl0, ↓sl1, ↓sl2, ↓sl3, ↓sl4, ↓sl5, ↓sl6, ↓sl7, ↓sl8, true_and, and_true, zbj, decide_true, decide_false, List.getElem?_cons_zero, List.getElem?_cons_succ, List.set_cons_zero, List.set_cons_succ, tt32_30, tt32_15, tt32_29, tt32_12, tt32_31, tt32_14, tt32_27, tt32_26, tt32_23, tt32_22, tt32_25, tt32_24, tt32_16, tt32_21, tt32_19, tt32_18, tt32_13, ↓it_ref app_new]
  repeat (refine nx_nx.mpr ?_; simp (maxSteps := 4000000) (disch := decide) only [↓zdg, ↓zdh, ↓zcw, ↓zeq, ↓zeo, ↓zep, ↓zbu, ↓zbv, ↓zcz, ↓zew, ↓zdc, ↓zex, ↓zdd, ↓zbw, ↓zev, ↓zeu, ↓zet, ↓zcy, ↓zda, ↓zdb, ↓zde, ↓zey, ↓zes, ↓zbi, ↓zfx, ↓zfy, ↓zci, ↓zcj, ↓zfp, ↓zbh, ↓zfh, ↓zfn, ↓zga, ↓zfl, ↓zdp, ↓zdo, ↓zfm, ↓zff, ↓zfk, ↓zgc, ↓zfd, ↓zgd, ↓zfq, ↓or1, ↓and2, ↓or2, ↓zdr, ↓zfs, ↓zds, ↓zft, ↓zfg, ↓zeg, ↓zcr, ↓zfo, ↓zfj, ↓zgb, ↓zfr, ↓zer, ↓zbk, ↓zge, ↓zfz, ↓zfi, ↓zdm, ↓zfe, ↓zdn, ↓zca, ↓zcb, ↓zfa, ↓zfv, ↓zez, ↓zfw, ↓zfc, ↓zfu, ↓zfb, ↓zdj, ↓zcd, ↓zdk, ↓zbl, ↓zdy, ↓zcf, ↓zdz, ↓zcg, ↓zch, ↓zbz, ↓zcc, ↓zdi, ↓zei, ↓zeh, ↓zdx, ↓zdw, ↓zdu, ↓zdq, ↓zea, ↓zcs, ↓zct, ↓zen, ↓zbg, ↓zcv, ↓zcu, ↓zcx, ↓zce, ↓reduceIte, and_self, ↓zbt, ↓zcq, ↓zbs, ↓zbm, ↓zdl, ↓zdf, ↓zby, ↓zec, ↓zed, ↓zee, ↓zef, ↓zdv, ↓zdt, ↓zem, ↓zek, ↓zel, ↓zej, ↓zcl, ↓zeb, ↓zck, ↓zcn, ↓zco, ↓zcm, ↓zbo, ↓zcp, ↓zbn, ↓zbq, ↓zbr, ↓zbp, ↓zal, ↓zak, ↓zai, ↓zba, ↓zaj, ↓zax, ↓zaw, ↓zau, ↓zbe, ↓zav, ↓zad, ↓zac, ↓zaa, ↓zay, ↓zab, ↓zap, ↓zao, ↓zam, ↓zbb, ↓zan, ↓zat, ↓zas, ↓zaq, ↓zbc, ↓zar, ↓zah, ↓zag, ↓zae, ↓zaz, ↓zaf, Bool.not_true, Bool.not_false, Bool.false_eq_true, zbf, zbd, ↓sl0, ↓sl1, ↓sl2, ↓sl3, ↓sl4, ↓sl5, ↓sl6, ↓sl7, ↓sl8, true_and, and_true, zbj, decide_true, decide_false, List.getElem?_cons_zero, List.getElem?_cons_succ, List.set_cons_zero, List.set_cons_succ, tt32_30, tt32_15, tt32_29, tt32_12, tt32_31, tt32_14, tt32_27, tt32_26, tt32_23, tt32_22, tt32_25, tt32_24, tt32_16, tt32_21, tt32_19, tt32_18, tt32_13, ↓it_ref app_new])
  refine vCo_no (fun i acc h' => acc = (kds.take i).map (fun kd => D.bl (vb as kd)) ∧ Kp (h29 ++ [OD.lst [D.str "sequence", .str "map", .str "queue", .str "intervals"]]) h') ⟨rfl, .refl⟩ (fun i acc h' _ ⟨_, k⟩ p hp => by rw [List.mem_singleton.mp hp]; exact k.keep _ _ app_new) (fun i acc h' x hx ⟨ea, k⟩ => ?_) fun acc h30 ⟨ea, k30⟩ => ?_
  · obtain ⟨kd, e1, rfl⟩ := kd_at hx
    refine ⟨_, rfl, ?_⟩
    simp (maxSteps := 4000000) (disch := decide) only [↓zdg, ↓zdh, ↓zcw, ↓zeq, ↓zeo, ↓zep, ↓zbu, ↓zbv, ↓zcz, ↓zew, ↓zdc, ↓zex, ↓zdd, ↓zbw, ↓zev, ↓zeu, ↓zet, ↓zcy, ↓zda, ↓zdb, ↓zde, ↓zey, ↓zes, ↓zbi, ↓zfx, ↓zfy, ↓zci, ↓zcj, ↓zfp, ↓zbh, ↓zfh, ↓zfn, ↓zga, ↓zfl, ↓zdp, ↓zdo, ↓zfm, ↓zff, ↓zfk, ↓zgc, ↓zfd, ↓zgd, ↓zfq, ↓or1, ↓and2, ↓or2, ↓zdr, ↓zfs, ↓zds, ↓zft, ↓zfg, ↓zeg, ↓zcr, ↓zfo, ↓zfj, ↓zgb, ↓zfr, ↓zer, ↓zbk, ↓zge, ↓zfz, ↓zfi, ↓zdm, ↓zfe, ↓zdn, ↓zca, ↓zcb, ↓zfa, ↓zfv, ↓zez, ↓zfw, ↓zfc, ↓zfu, ↓zfb, ↓zdj, ↓zcd, ↓zdk, ↓zbl, ↓zdy, ↓zcf, ↓zdz, ↓zcg, ↓zch, ↓zbz, ↓zcc, ↓zdi, ↓zei, ↓zeh, ↓zdx, ↓zdw, ↓zdu, ↓zdq, ↓zea, ↓zcs, ↓zct, ↓zen, ↓zbg, ↓zcv, ↓zcu, ↓zcx, ↓zce, ↓reduceIte, and_self, ↓zbt, ↓zcq, ↓zbs, ↓zbm, ↓zdl, ↓zdf, ↓zby, ↓zec, ↓zed, ↓zee, ↓zef, ↓zdv, ↓zdt, ↓zem, ↓zek, ↓zel, ↓zej, ↓zcl, ↓zeb, ↓zck, ↓zcn, ↓zco, ↓zcm, ↓zbo, ↓zcp, ↓zbn, ↓zbq, ↓zbr, ↓zbp, ↓zal, ↓zak, ↓zai, ↓zba, ↓zaj, ↓zax, ↓zaw, ↓zau, ↓zbe, ↓zav, ↓zad, ↓zac, ↓zaa, ↓zay, ↓zab, ↓zap, ↓zao, ↓zam, ↓zbb, ↓zan, ↓zat, ↓zas, ↓zaq, ↓zbc, ↓zar, ↓zah, ↓zag, ↓zae, ↓zaz, ↓zaf, Bool.not_true, Bool.not_false, Bool.false_eq_true, zbf, zbd, ↓sl0, ↓sl1, ↓sl2, ↓sl3, ↓sl4, ↓sl5, ↓sl6, ↓sl7, ↓sl8, true_and, and_true, zbj, decide_true, decide_false, List.getElem?_cons_zero, List.getElem?_cons_succ, List.set_cons_zero, List.set_cons_succ, wipeD, tt32_30, tt32_15, tt32_29, tt32_12, tt32_31, tt32_14, tt32_27, tt32_26, tt32_23, tt32_22, tt32_25, tt32_24, tt32_16, tt32_21, tt32_19, tt32_18, tt32_13]
    refine law_fits_v las fun b hb => ?_
    exact ⟨by rw [ea, take_snoc e1, List.map_append, vb_of hb]; rfl, k⟩
  have ea : acc = kds.map fun kd => D.bl (vb as kd) := ea
  subst ea
  refine ⟨by simp [kds]; exact sz (by decide), (tuple_v (seqOf_ref app_new)).mpr ?_⟩
  have K30 : Kp hh (h30 ++ [OD.lst (kds.map fun kd => D.bl (vb as kd))]) := (K28.trans (Kp.app.trans k30)).more
  generalize h30 ++ [OD.lst (kds.map fun kd => D.bl (vb as kd))] = h31 at K30 ⊢
  try simp (maxSteps := 4000000) (disch := decide) only [↓zdg, ↓zdh, ↓zcw, ↓zeq, ↓zeo, ↓zep, ↓zbu, ↓zbv, ↓zcz, ↓zew, ↓zdc, ↓zex, ↓zdd, ↓zbw, ↓zev, ↓zeu, ↓zet, ↓zcy, ↓zda, ↓zdb, ↓zde, ↓zey, ↓zes, ↓zbi, ↓zfx, ↓zfy, ↓zci, ↓zcj, ↓zfp, ↓zbh, ↓zfh, ↓zfn, ↓zga, ↓zfl, ↓zdp, ↓zdo, ↓zfm, ↓zff, ↓zfk, ↓zgc, ↓zfd, ↓zgd, ↓zfq, ↓or1, ↓and2, ↓or2, ↓zdr, ↓zfs, ↓zds, ↓zft, ↓zfg, ↓zeg, ↓zcr, ↓zfo, ↓zfj, ↓zgb, ↓zfr, ↓zer, ↓zbk, ↓zge, ↓zfz, ↓zfi, ↓zdm, ↓zfe, ↓zdn, ↓zca, ↓zcb, ↓zfa, ↓zfv, ↓zez, ↓zfw, ↓zfc, ↓zfu, ↓zfb, ↓zdj, ↓zcd, ↓zdk, ↓zbl, ↓zdy, ↓zcf, ↓zdz, ↓zcg, ↓zch, ↓zbz, ↓zcc, ↓zdi, ↓zei, ↓zeh, ↓zdx, ↓zdw, ↓zdu, ↓zdq, ↓zea, ↓zcs, ↓zct, ↓zen, ↓zbg, ↓zcv, ↓zcu, ↓zcx, ↓zce, ↓reduceIte, and_self, ↓zbt, ↓zcq, ↓zbs, ↓zbm, ↓zdl, ↓zdf, ↓zby, ↓zec, ↓zed, ↓zee, ↓zef, ↓zdv, ↓zdt, ↓zem, ↓zek, ↓zel, ↓zej, ↓zcl, ↓zeb, ↓zck, ↓zcn, ↓zco, ↓zcm, ↓zbo, ↓zcp, ↓zbn, ↓zbq, ↓zbr, ↓zbp, ↓zal, ↓zak, ↓zai, ↓zba, ↓zaj, ↓zax, ↓zaw, ↓zau, ↓zbe, ↓zav, ↓zad, ↓zac, ↓zaa, ↓zay, ↓zab, ↓zap, ↓zao, ↓zam, ↓zbb, ↓zan, ↓zat, ↓zas, ↓zaq, ↓zbc, ↓zar, ↓zah, ↓zag, ↓zae, ↓zaz, ↓zaf, Bool.not_true, Bool.not_false, Bool.false_eq_true, zbf, zbd, ↓sl0, ↓sl1, ↓sl2, ↓sl3, ↓sl4, ↓sl5, ↓sl6, ↓sl7, ↓sl8, true_and, and_true, zbj, decide_true, decide_false, List.getElem?_cons_zero, List.getElem?_cons_succ, List.set_cons_zero, List.set_cons_succ, tt32_30, tt32_15, tt32_29, tt32_12, tt32_31, tt32_14, tt32_27, tt32_26, tt32_23, tt32_22, tt32_25, tt32_24, tt32_16, tt32_21, tt32_19, tt32_18, tt32_13]
  repeat (refine nx_nx.mpr ?_; simp (maxSteps := 4000000) (disch := decide) only [↓zdg, ↓zdh, ↓zcw, ↓zeq, ↓zeo, ↓zep, ↓zbu, ↓zbv, ↓zcz, ↓zew, ↓zdc, ↓zex, ↓zdd, ↓zbw, ↓zev, ↓zeu, ↓zet, ↓zcy, ↓zda, ↓zdb, ↓zde, ↓zey, ↓zes, ↓zbi, ↓zfx, ↓zfy, ↓zci, ↓zcj, ↓zfp, ↓zbh, ↓zfh, ↓zfn, ↓zga, ↓zfl, ↓zdp, ↓zdo, ↓zfm, ↓zff, ↓zfk, ↓zgc, ↓zfd, ↓zgd, ↓zfq, ↓or1, ↓and2, ↓or2, ↓zdr, ↓zfs, ↓zds, ↓zft, ↓zfg, ↓zeg, ↓zcr, ↓zfo, ↓zfj, ↓zgb, ↓zfr, ↓zer, ↓zbk, ↓zge, ↓zfz, ↓zfi, ↓zdm, ↓zfe, ↓zdn, ↓zca, ↓zcb, ↓zfa, ↓zfv, ↓zez, ↓zfw, ↓zfc, ↓zfu, ↓zfb, ↓zdj, ↓zcd, ↓zdk, ↓zbl, ↓zdy, ↓zcf, ↓zdz, ↓zcg, ↓zch, ↓zbz, ↓zcc, ↓zdi, ↓zei, ↓zeh, ↓zdx, ↓zdw, ↓zdu, ↓zdq, ↓zea, ↓zcs, ↓zct, ↓zen, ↓zbg, ↓zcv, ↓zcu, ↓zcx, ↓zce, ↓reduceIte, and_self, ↓zbt, ↓zcq, ↓zbs, ↓zbm, ↓zdl, ↓zdf, ↓zby, ↓zec, ↓zed, ↓zee, ↓zef, ↓zdv, ↓zdt, ↓zem, ↓zek, ↓zel, ↓zej, ↓zcl, ↓zeb, ↓zck, ↓zcn, ↓zco, ↓zcm, ↓zbo, ↓zcp, ↓zbn, ↓zbq, ↓zbr, ↓zbp, ↓zal, ↓zak, ↓zai, ↓zba, ↓zaj, ↓zax, ↓zaw, ↓zau, ↓zbe, ↓zav, ↓zad, ↓zac, ↓zaa, ↓zay, ↓zab, ↓zap, ↓zao, ↓zam, ↓zbb, ↓zan, ↓zat, ↓zas, ↓zaq, ↓zbc, ↓zar, ↓zah, ↓zag, ↓zae, ↓zaz, ↓zaf, Bool.not_true, Bool.not_false, Bool.false_eq_true, zbf, zbd, ↓sl0, ↓sl1, ↓sl2, ↓sl3, ↓sl4, ↓sl5, ↓sl6, ↓sl7, ↓sl8, true_and, and_true, zbj, decide_true, decide_false, List.getElem?_cons_zero, List.getElem?_cons_succ, List.set_cons_zero, List.set_cons_succ, tt32_30, tt32_15, tt32_29, tt32_12, tt32_31, tt32_14, tt32_27, tt32_26, tt32_23, tt32_22, tt32_25, tt32_24, tt32_16, tt32_21, tt32_19, tt32_18, tt32_13])
  refine alike_v (vd_map (by decide) fun kd => .bl _ _) fun h32 k32 => ?_
  have K32 := K30.trans k32
  try simp (maxSteps := 4000000) (disch := decide) only [↓zdg, ↓zdh, ↓zcw, ↓zeq, ↓zeo, ↓zep, ↓zbu, ↓zbv, ↓zcz, ↓zew, ↓zdc, ↓zex, ↓zdd, ↓zbw, ↓zev, ↓zeu, ↓zet, ↓zcy, ↓zda, ↓zdb, ↓zde, ↓zey, ↓zes, ↓zbi, ↓zfx, ↓zfy, ↓zci, ↓zcj, ↓zfp, ↓zbh, ↓zfh, ↓zfn, ↓zga, ↓zfl, ↓zdp, ↓zdo, ↓zfm, ↓zff, ↓zfk, ↓zgc, ↓zfd, ↓zgd, ↓zfq, ↓or1, ↓and2, ↓or2, ↓zdr, ↓zfs, ↓zds, ↓zft, ↓zfg, ↓zeg, ↓zcr, ↓zfo, ↓zfj, ↓zgb, ↓zfr, ↓zer, ↓zbk, ↓zge, ↓zfz, ↓zfi, ↓zdm, ↓zfe, ↓zdn, ↓zca, ↓zcb, ↓zfa, ↓zfv, ↓zez, ↓zfw, ↓zfc, ↓zfu, ↓zfb, ↓zdj, ↓zcd, ↓zdk, ↓zbl, ↓zdy, ↓zcf, ↓zdz, ↓zcg, ↓zch, ↓zbz, ↓zcc, ↓zdi, ↓zei, ↓zeh, ↓zdx, ↓zdw, ↓zdu, ↓zdq, ↓zea, ↓zcs, ↓zct, ↓zen, ↓zbg, ↓zcv, ↓zcu, ↓zcx, ↓zce, ↓reduceIte, and_self, ↓zbt, ↓zcq, ↓zbs, ↓zbm, ↓zdl, ↓zdf, ↓zby, ↓zec, ↓zed, ↓zee, ↓zef, ↓zdv, ↓zdt, ↓zem, ↓zek, ↓zel, ↓zej, ↓zcl, ↓zeb, ↓zck, ↓zcn, ↓zco, ↓zcm, ↓zbo, ↓zcp, ↓zbn, ↓zbq, ↓zbr, ↓zbp, ↓zal, ↓zak, ↓zai, ↓zba, ↓zaj, ↓zax, ↓zaw, ↓zau, ↓zbe, ↓zav, ↓zad, ↓zac, ↓zaa, ↓zay, ↓zab, ↓zap, ↓zao, ↓zam, ↓zbb, ↓zan, ↓zat, ↓zas, ↓zaq, ↓zbc, ↓zar, ↓zah, ↓zag, ↓zae, ↓zaz, ↓zaf, Bool.not_true, Bool.not_false, Bool.false_eq_true, zbf, zbd, ↓sl0, ↓sl1, ↓sl2, ↓sl3, ↓sl4, ↓sl5, ↓sl6, ↓sl7, ↓sl8, true_and, and_true, zbj, decide_true, decide_false, List.getElem?_cons_zero, List.getElem?_cons_succ, List.set_cons_zero, List.set_cons_succ]
  repeat (refine nx_nx.mpr ?_; simp (maxSteps := 4000000) (disch := decide) only [↓zdg, ↓zdh, ↓zcw, ↓zeq, ↓zeo, ↓zep, ↓zbu, ↓zbv, ↓zcz, ↓zew, ↓zdc, ↓zex, ↓zdd, ↓zbw, ↓zev, ↓zeu, ↓zet, ↓zcy, ↓zda, ↓zdb, ↓zde, ↓zey, ↓zes, ↓zbi, ↓zfx, ↓zfy, ↓zci, ↓zcj, ↓zfp, ↓zbh, ↓zfh, ↓zfn, ↓zga, ↓zfl, ↓zdp, ↓zdo, ↓zfm, ↓zff, ↓zfk, ↓zgc, ↓zfd, ↓zgd, ↓zfq, ↓or1, ↓and2, ↓or2, ↓zdr, ↓zfs, ↓zds, ↓zft, ↓zfg, ↓zeg, ↓zcr, ↓zfo, ↓zfj, ↓zgb, ↓zfr, ↓zer, ↓zbk, ↓zge, ↓zfz, ↓zfi, ↓zdm, ↓zfe, ↓zdn, ↓zca, ↓zcb, ↓zfa, ↓zfv, ↓zez, ↓zfw, ↓zfc, ↓zfu, ↓zfb, ↓zdj, ↓zcd, ↓zdk, ↓zbl, ↓zdy, ↓zcf, ↓zdz, ↓zcg, ↓zch, ↓zbz, ↓zcc, ↓zdi, ↓zei, ↓zeh, ↓zdx, ↓zdw, ↓zdu, ↓zdq, ↓zea, ↓zcs, ↓zct, ↓zen, ↓zbg, ↓zcv, ↓zcu, ↓zcx, ↓zce, ↓reduceIte, and_self, ↓zbt, ↓zcq, ↓zbs, ↓zbm, ↓zdl, ↓zdf, ↓zby, ↓zec, ↓zed, ↓zee, ↓zef, ↓zdv, ↓zdt, ↓zem, ↓zek, ↓zel, ↓zej, ↓zcl, ↓zeb, ↓zck, ↓zcn, ↓zco, ↓zcm, ↓zbo, ↓zcp, ↓zbn, ↓zbq, ↓zbr, ↓zbp, ↓zal, ↓zak, ↓zai, ↓zba, ↓zaj, ↓zax, ↓zaw, ↓zau, ↓zbe, ↓zav, ↓zad, ↓zac, ↓zaa, ↓zay, ↓zab, ↓zap, ↓zao, ↓zam, ↓zbb, ↓zan, ↓zat, ↓zas, ↓zaq, ↓zbc, ↓zar, ↓zah, ↓zag, ↓zae, ↓zaz, ↓zaf, Bool.not_true, Bool.not_false, Bool.false_eq_true, zbf, zbd, ↓sl0, ↓sl1, ↓sl2, ↓sl3, ↓sl4, ↓sl5, ↓sl6, ↓sl7, ↓sl8, true_and, and_true, zbj, decide_true, decide_false, List.getElem?_cons_zero, List.getElem?_cons_succ, List.set_cons_zero, List.set_cons_succ])
  exact ⟨T'.kp K32, K32.keep _ _ e', K32.keep _ _ e2, _, _, _, _, _, _, _, _, _, _, _, _, _, _, _, rfl⟩
theorem lawSat {ns : List Int} {d : D} {h : Hd} (hn : ns.length ≤ 63) (S : ScriptD (ns.map D.int) d h) : ∃ h', fF32 [d] h = .ok (.bl true) h' := by
  have s := lawMain hn S
  cases e : fF32 [d] h with
  | ok r h' => rw [e] at s; exact ⟨h', by rw [show r = .bl true from s]⟩
  | ex x h' => rw [e] at s; exact s.elim
  | bad => rw [e] at s; exact s.elim
end DL

theorem PySem.Challenge.cw_sameshape_k76_kinds_of_contents_holds : PySem.Challenge.rw_sameshape_k76_kinds_of_contents.Holds :=
  DL.hEnd fun ns d h hn S => DL.lawSat hn S
