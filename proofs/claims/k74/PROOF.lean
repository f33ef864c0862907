import PyProof.Rows.All
import HandS.ForMost
import HandS.ForExc
import HandS.CallSlots
import HandS.TupAny
import HandS.Deep
import HandS.IsInst
import HandS.Wide
import HandS.Lambda
import KE.DataEq
import KE.SortKeyHeap
import KE.SortData
import KE.GoesEnum
import HandS.Head2
import HandS.HeadHook4
import HandS.HeadWalk
import Wide.All
import OpenK.AllK
import Wide.FinOn
import KE.KStateDown
import Lean
import HandS.HeadEnd
import HandS.More
import PySem.Challenge.RW_sameshape_k74_clashes_and_merged_edits
set_option Elab.async false
set_option linter.all false
set_option maxRecDepth 100000
namespace DL
open PySem PySem.Spec PyProof.Rows L2

inductive D where
  | non | bl (b : Bool) | int (i : Int) | str (x : Str) | tup (ds : List D) | rol (ds : List D) | ref (n : Nat) | glo (v : V)

inductive OD where
  | lst (ds : List D) | dct (kvs : List (D × D)) | ins (c : Nat) (fs : List (Str × D))

abbrev Hd := List OD
abbrev Sd := List (Option D)
structure Exn where
  cls : Nat
  fs : List (Str × D)
inductive Res (α : Type) where
  | ok (a : α) (h : Hd) | ex (x : Exn) (h : Hd) | bad
def Res.bind {α β : Type} : Res α → (α → Hd → Res β) → Res β
  | .ok a h, f => f a h
  | .ex x h, _ => .ex x h
  | .bad, _ => .bad
@[simp] theorem Res.bind_ok {α β : Type} (a : α) (h : Hd) (f : α → Hd → Res β) : (Res.ok a h).bind f = f a h := rfl
@[simp] theorem Res.bind_ex {α β : Type} (x : Exn) (h : Hd) (f : α → Hd → Res β) : (Res.ex x h : Res α).bind f = .ex x h := rfl
@[simp] theorem Res.bind_bad {α β : Type} (f : α → Hd → Res β) : (Res.bad : Res α).bind f = .bad := rfl

/-- the written part and the classes' places -/
structure Gd where
  K : PySem.W.Frag
  cl : Nat → Option Addr
  T : List (Addr × Str) := []

/-- a read-only list -/
def RoL (K : PySem.W.Frag) (H : Hp) (a : Addr) (xs : List V) : Prop :=
  (∃ o, H a = some (.frz o (.lst xs))) ∨
    ∃ (o : Obj) (its : Array Value) (n : Nat), K.lookup a = some o ∧ o.cls = .type "list" ∧ o.dict = none ∧ o.data = .seq its n ∧ its.size ≤ sizeLine ∧ Vals xs its.toList
theorem RoL.sq {K : PySem.W.Frag} {H : Hp} {a : Addr} {xs : List V} (h : RoL K H a xs) : SqL K H a xs := by
  rcases h with ⟨o, h⟩ | h
  · exact .inl (.inr ⟨o, h⟩)
  · exact .inr h

mutual
inductive DV (K : PySem.W.Frag) (H : Hp) (m : List Addr) : V → D → Prop
  | non : DV K H m .non .non
  | bl (b : Bool) : DV K H m (.bl b) (.bl b)
  | int (i : Int) : DV K H m (.int i) (.int i)
  | str (x : Str) : DV K H m (.str x) (.str x)
  | tup {a : Addr} {xs : List V} {ds : List D} : SqT K H a xs → DVs K H m xs ds → DV K H m (.ref a) (.tup ds)
  | rol {a : Addr} {xs : List V} {ds : List D} : RoL K H a xs → DVs K H m xs ds → DV K H m (.ref a) (.rol ds)
  | ref {a : Addr} {n : Nat} : m[n]? = some a → DV K H m (.ref a) (.ref n)
  | glo (v : V) : DV K H m v (.glo v)
inductive DVs (K : PySem.W.Frag) (H : Hp) (m : List Addr) : List V → List D → Prop
  | nil : DVs K H m [] []
  | cons {v : V} {d : D} {vs : List V} {ds : List D} : DV K H m v d → DVs K H m vs ds → DVs K H m (v :: vs) (d :: ds)
end

section
variable {K : PySem.W.Frag} {H H' : Hp} {m m' : List Addr}
theorem DVs.length : ∀ {xs : List V} {ds : List D}, DVs K H m xs ds → xs.length = ds.length
  | _, _, .nil => rfl
  | _, _, .cons _ t => congrArg (· + 1) t.length
theorem DVs.get : ∀ {xs : List V} {ds : List D} {i : Nat} {d : D}, DVs K H m xs ds → ds[i]? = some d → ∃ v, xs[i]? = some v ∧ DV K H m v d
  | _, _, _, _, .nil, e => by simp at e
  | _, _, 0, _, .cons r _, e => by simp at e; subst e; exact ⟨_, rfl, r⟩
  | _, _, i + 1, d, .cons _ t, e => by
    obtain ⟨u, h1, h2⟩ := DVs.get (i := i) (d := d) t (by simpa using e)
    exact ⟨u, by simpa using h1, h2⟩
theorem DVs.get' : ∀ {xs : List V} {ds : List D} {i : Nat} {v : V}, DVs K H m xs ds → xs[i]? = some v → ∃ d, ds[i]? = some d ∧ DV K H m v d
  | _, _, _, _, .nil, e => by simp at e
  | _, _, 0, _, .cons r _, e => by simp at e; subst e; exact ⟨_, rfl, r⟩
  | _, _, i + 1, d, .cons _ t, e => by
    obtain ⟨u, h1, h2⟩ := DVs.get' (i := i) (v := d) t (by simpa using e)
    exact ⟨u, by simpa using h1, h2⟩
theorem DVs.append : ∀ {xs ys : List V} {ds es : List D}, DVs K H m xs ds → DVs K H m ys es → DVs K H m (xs ++ ys) (ds ++ es)
  | _, _, _, _, .nil, s => s
  | _, _, _, _, .cons r t, s => .cons r (t.append s)
theorem DVs.take : ∀ {xs : List V} {ds : List D} (n : Nat), DVs K H m xs ds → DVs K H m (xs.take n) (ds.take n)
  | _, _, 0, _ => .nil
  | _, _, _ + 1, .nil => .nil
  | _, _, n + 1, .cons r t => .cons r (t.take n)
theorem DVs.drop : ∀ {xs : List V} {ds : List D} (n : Nat), DVs K H m xs ds → DVs K H m (xs.drop n) (ds.drop n)
  | _, _, 0, r => r
  | _, _, _ + 1, .nil => .nil
  | _, _, n + 1, .cons _ t => t.drop n
theorem DVs.set {v : V} {d : D} (r : DV K H m v d) : ∀ {xs : List V} {ds : List D} (i : Nat), DVs K H m xs ds → DVs K H m (xs.set i v) (ds.set i d)
  | _, _, _, .nil => .nil
  | _, _, 0, .cons _ t => .cons r t
  | _, _, i + 1, .cons q t => .cons q (t.set r i)
theorem DVs.rep {xs : List V} {ds : List D} (r : DVs K H m xs ds) : ∀ n : Nat, DVs K H m (List.replicate n xs).flatten (List.replicate n ds).flatten
  | 0 => .nil
  | n + 1 => by simp only [List.replicate_succ, List.flatten_cons]; exact r.append (DVs.rep r n)
theorem DVs.nth {xs : List V} {ds : List D} (h : xs.length = ds.length) (f : ∀ (i : Nat) v d, xs[i]? = some v → ds[i]? = some d → DV K H m v d) : DVs K H m xs ds := by
  induction xs generalizing ds with
  | nil => cases ds with
    | nil => exact .nil
    | cons _ _ => cases h
  | cons x xs ih => cases ds with
    | nil => cases h
    | cons d ds => exact .cons (f 0 x d rfl rfl) (ih (by simpa using h) fun i v d e1 e2 => f (i + 1) v d (by simpa using e1) (by simpa using e2))

/-- what stays: tuples, read-only lists, places -/
structure Stay (K : PySem.W.Frag) (H : Hp) (m : List Addr) (H' : Hp) (m' : List Addr) : Prop where
  tup : ∀ a xs, SqT K H a xs → SqT K H' a xs
  rol : ∀ a xs, RoL K H a xs → RoL K H' a xs
  pl : ∀ (n : Nat) a, m[n]? = some a → m'[n]? = some a
mutual
theorem DV.stay (st : Stay K H m H' m') : ∀ {v : V} {d : D}, DV K H m v d → DV K H' m' v d
  | _, _, .non => .non
  | _, _, .bl b => .bl b
  | _, _, .int i => .int i
  | _, _, .str x => .str x
  | _, _, .tup h t => .tup (st.tup _ _ h) (t.stay st)
  | _, _, .rol h t => .rol (st.rol _ _ h) (t.stay st)
  | _, _, .ref e => .ref (st.pl _ _ e)
  | _, _, .glo v => .glo v
theorem DVs.stay (st : Stay K H m H' m') : ∀ {vs : List V} {ds : List D}, DVs K H m vs ds → DVs K H' m' vs ds
  | _, _, .nil => .nil
  | _, _, .cons r t => .cons (r.stay st) (t.stay st)
end
end

/-- a field list -/
def FV (K : PySem.W.Frag) (H : Hp) (m : List Addr) (fs : List (Str × V)) (gs : List (Str × D)) : Prop :=
  fs.map (·.1) = gs.map (·.1) ∧ DVs K H m (fs.map (·.2)) (gs.map (·.2))

def OV (g : Gd) (H : Hp) (m : List Addr) (a : Addr) : OD → Prop
  | .lst ds => ∃ xs, H a = some (.lst xs) ∧ DVs g.K H m xs ds
  | .dct _ => False
  | .ins c fs => ∃ C dx gs, g.cl c = some C ∧ H a = some (.ins C dx gs) ∧ FV g.K H m gs fs

structure Rel (g : Gd) (H : Hp) (m : List Addr) (h : Hd) : Prop where
  len : m.length = h.length
  nd : m.Nodup
  obj : ∀ (n : Nat) a o, m[n]? = some a → h[n]? = some o → OV g H m a o
  tabs : LamX.Tabs g.T H

def SV (K : PySem.W.Frag) (H : Hp) (m : List Addr) (σ : L2.St) (τ : Sd) : Prop :=
  σ.length = τ.length ∧ ∀ (i : Nat) (d : D), τ[i]? = some (some d) → ∃ v, σ[i]? = some (some v) ∧ DV K H m v d

structure Ext (H : Hp) (m : List Addr) (H' : Hp) (m' : List Addr) : Prop where
  pre : ∃ e, m' = m ++ e ∧ ∀ a ∈ e, (∀ o, H a = some o → ∃ ps, o = .tbl ps) ∧ a ∉ m
  keep : ∀ a o, a ∉ m → H a = some o → (∀ ps, o ≠ .tbl ps) → H' a = some o

section
variable {g : Gd} {H H' H1 H2 : Hp} {m m' m1 m2 : List Addr} {h h' : Hd} {a : Addr} {o : OD}
theorem Ext.refl : Ext H m H m := ⟨⟨[], by simp, fun _ z => nomatch z⟩, fun _ _ _ e _ => e⟩
theorem Ext.trans (x : Ext H m H1 m1) (y : Ext H1 m1 H2 m2) : Ext H m H2 m2 := by
  obtain ⟨e1, rfl, p1⟩ := x.pre
  obtain ⟨e2, rfl, p2⟩ := y.pre
  refine ⟨⟨e1 ++ e2, by simp, fun a ha => ?_⟩, fun a o n e t => y.keep a o (fun z => ?_) (x.keep a o n e t) t⟩
  · rcases List.mem_append.mp ha with ha | ha
    · exact p1 a ha
    · obtain ⟨q1, q2⟩ := p2 a ha
      have nm : a ∉ m := fun z => q2 (List.mem_append_left _ z)
      refine ⟨fun o e => ?_, nm⟩
      by_cases z : ∃ ps, o = .tbl ps
      · exact z
      · exact q1 o (x.keep a o nm e fun ps q => z ⟨ps, q⟩)
  · rcases List.mem_append.mp z with z | z
    · exact n z
    · obtain ⟨ps, q⟩ := (p1 a z).1 o e
      exact t ps q
theorem Ext.pl (x : Ext H m H' m') {n : Nat} (e : m[n]? = some a) : m'[n]? = some a := by
  obtain ⟨e', rfl, _⟩ := x.pre
  obtain ⟨hl, he⟩ := List.getElem?_eq_some_iff.mp e
  rw [List.getElem?_append_left hl]; exact e
theorem OV.some (x : OV g H m a o) : ∃ u, H a = some u ∧ (∀ xs, u ≠ .tup xs) ∧ (∀ ob v, u ≠ .frz ob v) ∧ (∀ ps, u ≠ .tbl ps) ∧ ∀ p, u ≠ .ext p := by
  cases o with
  | lst ds => obtain ⟨xs, e, _⟩ := x; exact ⟨_, e, fun _ z => (nomatch z), fun _ _ z => (nomatch z), fun _ z => (nomatch z), fun _ z => (nomatch z)⟩
  | dct kvs => exact x.elim
  | ins c fs => obtain ⟨_, _, _, _, e, _⟩ := x; exact ⟨_, e, fun _ z => (nomatch z), fun _ _ z => (nomatch z), fun _ z => (nomatch z), fun _ z => (nomatch z)⟩
theorem Rel.mem (r : Rel g H m h) (ha : a ∈ m) : ∃ (n : Nat) (o : OD), m[n]? = some a ∧ h[n]? = some o ∧ OV g H m a o := by
  obtain ⟨n, hn, e⟩ := List.getElem_of_mem ha
  have e1 : m[n]? = some a := by rw [List.getElem?_eq_getElem hn, e]
  have hn' : n < h.length := r.len ▸ hn
  exact ⟨n, h[n], e1, List.getElem?_eq_getElem hn', r.obj n a _ e1 (List.getElem?_eq_getElem hn')⟩
theorem Rel.there (r : Rel g H m h) (ha : a ∈ m) : ∃ u, H a = some u ∧ (∀ xs, u ≠ .tup xs) ∧ (∀ ob v, u ≠ .frz ob v) ∧ (∀ ps, u ≠ .tbl ps) ∧ ∀ p, u ≠ .ext p := by
  obtain ⟨_, o, _, _, x⟩ := r.mem ha
  exact x.some
theorem Rel.notin (r : Rel g H m h) (hn : H a = none) : a ∉ m := fun z => by
  obtain ⟨u, e, _⟩ := r.there z
  rw [hn] at e; cases e
theorem Rel.get (r : Rel g H m h) {n : Nat} (e : h[n]? = some o) : ∃ a, m[n]? = some a ∧ OV g H m a o := by
  obtain ⟨hn, _⟩ := List.getElem?_eq_some_iff.mp e
  have hn' : n < m.length := r.len ▸ hn
  exact ⟨m[n], List.getElem?_eq_getElem hn', r.obj n _ o (List.getElem?_eq_getElem hn') e⟩
theorem Rel.inj (r : Rel g H m h) {i j : Nat} (e1 : m[i]? = some a) (e2 : m[j]? = some a) : i = j := by
  obtain ⟨h1, e1⟩ := List.getElem?_eq_some_iff.mp e1
  obtain ⟨h2, e2⟩ := List.getElem?_eq_some_iff.mp e2
  exact (List.getElem_inj r.nd).mp (e1.trans e2.symm)
/-- tuples and read-only lists stay where only what is at m is changed -/
theorem Rel.stayOf (r : Rel g H m h) (keep : ∀ a o, a ∉ m → H a = some o → (∀ ps, o ≠ .tbl ps) → H' a = some o) (pl : ∀ (n : Nat) a, m[n]? = some a → m'[n]? = some a) : Stay g.K H m H' m' where
  tup := fun a xs q => by
    rcases q with (q | ⟨o, q⟩) | q
    · exact .inl (.inl (keep _ _ (fun z => by obtain ⟨u, e, n, _⟩ := r.there z; rw [q] at e; cases e; exact n _ rfl) q fun _ z => (nomatch z)))
    · exact .inl (.inr ⟨o, keep _ _ (fun z => by obtain ⟨u, e, _, n, _⟩ := r.there z; rw [q] at e; cases e; exact n _ _ rfl) q fun _ z => (nomatch z)⟩)
    · exact .inr q
  rol := fun a xs q => by
    rcases q with ⟨o, q⟩ | q
    · exact .inl ⟨o, keep _ _ (fun z => by obtain ⟨u, e, _, n, _⟩ := r.there z; rw [q] at e; cases e; exact n _ _ rfl) q fun _ z => (nomatch z)⟩
    · exact .inr q
  pl := pl
theorem Rel.stay (r : Rel g H m h) (x : Ext H m H' m') : Stay g.K H m H' m' := r.stayOf x.keep fun _ _ e => x.pl e
theorem SV.stay {K : PySem.W.Frag} {σ : L2.St} {τ : Sd} (s : SV K H m σ τ) (x : Stay K H m H' m') : SV K H' m' σ τ :=
  ⟨s.1, fun i d e => let ⟨v, e1, r⟩ := s.2 i d e; ⟨v, e1, r.stay x⟩⟩
theorem FV.stay {K : PySem.W.Frag} {fs : List (Str × V)} {gs : List (Str × D)} (s : FV K H m fs gs) (x : Stay K H m H' m') : FV K H' m' fs gs := ⟨s.1, s.2.stay x⟩
theorem OV.stay (s : OV g H m a o) (x : Stay g.K H m H' m') (e : H' a = H a) : OV g H' m' a o := by
  cases o with
  | lst ds => obtain ⟨xs, q, r⟩ := s; exact ⟨xs, e.trans q, r.stay x⟩
  | dct kvs => exact s.elim
  | ins c fs => obtain ⟨C, dx, gs, q1, q, r⟩ := s; exact ⟨C, dx, gs, q1, e.trans q, r.stay x⟩
/-- tables stay where an object is written that is no table and no code object -/
theorem tabs_upd {T : List (Addr × Str)} {p : Addr} {u : HO} (t : LamX.Tabs T H) (h1 : ∀ ps, H p ≠ some (.tbl ps)) (h2 : ∀ q, H p ≠ some (.ext q)) : LamX.Tabs T (upd H p u) := fun x hx => by
  obtain ⟨ps, e1, e2, e3⟩ := t x hx
  refine ⟨ps, by rw [upd_ne (fun z : x.1 = p => h1 ps (by rw [← z]; exact e1))]; exact e1, e2, fun pos cv hc => ?_⟩
  obtain ⟨c, q1, q2⟩ := e3 pos cv hc
  exact ⟨c, q1, by rw [upd_ne (fun z : c = p => h2 _ (by rw [← z]; exact q2))]; exact q2⟩
theorem tabs_new {T : List (Addr × Str)} {p : Addr} {u : HO} (t : LamX.Tabs T H) (hp : H p = none) : LamX.Tabs T (upd H p u) := tabs_upd t (fun _ z => by rw [hp] at z; cases z) fun _ z => by rw [hp] at z; cases z
/-- a new object at p -/
theorem Ext.new {p : Addr} {u : HO} (hp : H p = none) (hm : p ∉ m) : Ext H m (upd H p u) (m ++ [p]) :=
  ⟨⟨[p], rfl, fun a ha => by rw [List.mem_singleton.mp ha]; exact ⟨fun o e => by (rw [hp] at e; cases e), hm⟩⟩, fun a o _ e _ => by rw [upd_ne (ne_of_none e hp)]; exact e⟩
theorem Ext.tupNew {p : Addr} {u : HO} (hp : H p = none) : Ext H m (upd H p u) m :=
  ⟨⟨[], by simp, fun _ z => nomatch z⟩, fun a o _ e _ => by rw [upd_ne (ne_of_none e hp)]; exact e⟩
theorem Rel.new {p : Addr} {u : HO} (r : Rel g H m h) (hp : H p = none) (hu : OV g (upd H p u) (m ++ [p]) p o) : Rel g (upd H p u) (m ++ [p]) (h ++ [o]) where
  len := by simp [r.len]
  nd := List.nodup_append.mpr ⟨r.nd, by simp, fun a ha b hb => by rw [List.mem_singleton.mp hb]; intro e; subst e; exact r.notin hp ha⟩
  obj := fun n a o' e1 e2 => by
    have st := r.stay (Ext.new (u := u) hp (r.notin hp))
    by_cases hn : n < m.length
    · rw [List.getElem?_append_left hn] at e1
      rw [List.getElem?_append_left (r.len ▸ hn)] at e2
      have x := r.obj n a o' e1 e2
      obtain ⟨w, ew, _⟩ := x.some
      exact x.stay st (upd_ne (ne_of_none ew hp))
    · have hl : n = m.length := by
        obtain ⟨q, _⟩ := List.getElem?_eq_some_iff.mp e1
        simp at q; omega
      subst hl
      simp at e1
      rw [r.len] at e2
      simp at e2
      subst e1 e2
      exact hu
  tabs := tabs_new r.tabs hp
theorem Rel.tupNew {p : Addr} {u : HO} (r : Rel g H m h) (hp : H p = none) : Rel g (upd H p u) m h where
  len := r.len
  nd := r.nd
  obj := fun n a o' e1 e2 => by
    have x := r.obj n a o' e1 e2
    obtain ⟨w, ew, _⟩ := x.some
    exact x.stay (r.stay (Ext.tupNew hp)) (upd_ne (ne_of_none ew hp))
  tabs := tabs_new r.tabs hp
/-- the object at place n is changed -/
theorem Ext.write {p : Addr} {u : HO} (hm : p ∈ m) : Ext H m (upd H p u) m :=
  ⟨⟨[], by simp, fun _ z => nomatch z⟩, fun a o n e _ => by rw [upd_ne (fun z => n (by rw [z]; exact hm))]; exact e⟩
theorem Rel.write {p : Addr} {u : HO} {n : Nat} (r : Rel g H m h) (hn : m[n]? = some p) (hu : OV g (upd H p u) m p o) : Rel g (upd H p u) m (h.set n o) where
  len := by simp [r.len]
  nd := r.nd
  obj := fun i a o' e1 e2 => by
    have hm : p ∈ m := List.mem_of_getElem? hn
    by_cases hi : i = n
    · subst hi
      rw [e1] at hn; cases hn
      have hl : i < h.length := by
        obtain ⟨q, _⟩ := List.getElem?_eq_some_iff.mp e1
        rw [← r.len]; exact q
      rw [List.getElem?_set_self hl] at e2
      cases e2
      exact hu
    · rw [List.getElem?_set_ne (Ne.symm hi)] at e2
      have x := r.obj i a o' e1 e2
      refine x.stay (r.stay (Ext.write hm)) (upd_ne fun z => hi ?_)
      subst z
      exact r.inj e1 hn
  tabs := by
    obtain ⟨u, e, _, _, n1, n2⟩ := r.there (List.mem_of_getElem? hn)
    exact tabs_upd r.tabs (fun ps z => by rw [e] at z; cases z; exact n1 _ rfl) fun q z => by rw [e] at z; cases z; exact n2 _ rfl
end

/-- an exception's value, by its class and its own dict -/
def EV (g : Gd) (H : Hp) (m : List Addr) (x : Exn) (c : Value) (d : Option Addr) : Prop :=
  ∃ C, g.cl x.cls = some C ∧ c = .ref C ∧ match d with
    | none => x.fs = []
    | some a => ∃ fs, H a = some (.xd fs) ∧ FV g.K H m fs x.fs

def Post (g : Gd) (W : WX) (σ : L2.St) (H : Hp) (m : List Addr) {α β : Type} (rel : Hp → List Addr → β → α → Prop) (Q : β → Hp → Prop) : Res α → Prop
  | .ok d h' => ∀ v H' m', Ext H m H' m' → Rel g H' m' h' → rel H' m' v d → Q v H'
  | .ex x h' => ∀ c d H' m', Ext H m H' m' → Rel g H' m' h' → EV g H' m' x c d → W c d σ H'
  | .bad => False
/-- the state: abstract heap, places, slots -/
structure At (g : Gd) (σ : L2.St) (H : Hp) (m : List Addr) (τ : Sd) (h : Hd) : Prop where
  rel : Rel g H m h
  sv : SV g.K H m σ τ
def relB (_ : Hp) (_ : List Addr) (v : Bool) (d : Bool) : Prop := v = d
abbrev Fe := Sd → Hd → Res D
abbrev Fes := Sd → Hd → Res (List D)
abbrev Ft := Sd → Hd → Res Bool
def LE (g : Gd) (W : WX) (f : Fe) : TE := fun σ H Q => ∃ m τ h, At g σ H m τ h ∧ Post g W σ H m (DV g.K) Q (f τ h)
def LA (g : Gd) (W : WX) (f : Fes) : TA := fun σ H Q => ∃ m τ h, At g σ H m τ h ∧ Post g W σ H m (DVs g.K) Q (f τ h)
def LT (g : Gd) (W : WX) (f : Ft) : TT := fun σ H Q => ∃ m τ h, At g σ H m τ h ∧ Post g W σ H m relB Q (f τ h)

section
variable {g : Gd} {W : WX} {σ : L2.St} {H H1 : Hp} {m m1 : List Addr} {τ : Sd} {h : Hd} {α α' β β' : Type}
theorem At.ext (a : At g σ H m τ h) {h1 : Hd} (x : Ext H m H1 m1) (r : Rel g H1 m1 h1) : At g σ H1 m1 τ h1 := ⟨r, a.sv.stay (a.rel.stay x)⟩
theorem Post.ext {rel : Hp → List Addr → β → α → Prop} {Q : β → Hp → Prop} {r : Res α} (p : Post g W σ H m rel Q r) (x : Ext H m H1 m1) : Post g W σ H1 m1 rel Q r := by
  cases r with
  | ok d h' => exact fun v H' m' x' => p v H' m' (x.trans x')
  | ex e h' => exact fun c d H' m' x' => p c d H' m' (x.trans x')
  | bad => exact p
theorem Post.mono {rel : Hp → List Addr → β → α → Prop} {Q Q' : β → Hp → Prop} {r : Res α} (p : Post g W σ H m rel Q r) (hq : ∀ v H', Q v H' → Q' v H') : Post g W σ H m rel Q' r := by
  cases r with
  | ok d h' => exact fun v H' m' x' r d => hq _ _ (p v H' m' x' r d)
  | ex e h' => exact p
  | bad => exact p
/-- one step, then the rest -/
theorem Post.bind {rel : Hp → List Addr → β → α → Prop} {rel' : Hp → List Addr → β' → α' → Prop} {Q : β' → Hp → Prop} {r : Res α} {f : α → Hd → Res α'} (a : At g σ H m τ h) (p : Post g W σ H m rel' Q (r.bind f)) :
    Post g W σ H m rel (fun v H1 => ∃ m1 h1 d, At g σ H1 m1 τ h1 ∧ Stay g.K H m H1 m1 ∧ rel H1 m1 v d ∧ Post g W σ H1 m1 rel' Q (f d h1)) r := by
  cases r with
  | ok d h' => exact fun v H' m' x r' q => ⟨m', h', d, a.ext x r', a.rel.stay x, q, p.ext x⟩
  | ex e h' => exact p
  | bad => exact p
theorem Post.ok {rel : Hp → List Addr → β → α → Prop} {Q : β → Hp → Prop} {d : α} {v : β} (p : Post g W σ H m rel Q (.ok d h)) (a : At g σ H m τ h) (r : rel H m v d) : Q v H := p v H m .refl a.rel r
theorem PE.weak {X : Cx} {e : Expr} {t t' : TE} (p : PE X e t) (w : ∀ σ H Q, t' σ H Q → t σ H Q) : PE X e t' := ⟨fun pins s σ H Q I h => p.run pins s σ H Q I (w _ _ _ h)⟩
theorem PT.weak {X : Cx} {e : Expr} {t t' : TT} (p : PT X e t) (w : ∀ σ H Q, t' σ H Q → t σ H Q) : PT X e t' := ⟨fun pins s σ H Q I h => p.run pins s σ H Q I (w _ _ _ h)⟩
theorem PW.weak {X : Cx} {e : Expr} {t t' : TT} (p : PW X e t) (w : ∀ σ H Q, t' σ H Q → t σ H Q) : PW X e t' := ⟨fun wh pins s σ H Q I h => p.run wh pins s σ H Q I (w _ _ _ h)⟩
theorem PA.weak {X : Cx} {es : List Expr} {t t' : TA} (p : PA X es t) (w : ∀ σ H Q, t' σ H Q → t σ H Q) : PA X es t' := ⟨fun ps pins s σ H Q I h => p.run ps pins s σ H Q I (w _ _ _ h)⟩
theorem PS.weak {X : Cx} {st : Stmt} {t t' : TS} (p : PS X st t) (w : ∀ D σ H, t' D σ H → t D σ H) : PS X st t' := ⟨fun pins s σ H D I h => p.run pins s σ H D I (w _ _ _ h)⟩
theorem PSs.weak {X : Cx} {st : List Stmt} {t t' : TS} (p : PSs X st t) (w : ∀ D σ H, t' D σ H → t D σ H) : PSs X st t' := ⟨fun pins s σ H D I h => p.run pins s σ H D I (w _ _ _ h)⟩
/-- LE of a bind -/
theorem LE.bind {f : Fe} {k : D → Fe} {Q : VK} (p : LE g W (fun τ h => (f τ h).bind fun d h1 => k d τ h1) σ H Q) :
    LE g W f σ H (fun v H1 => ∃ m1 τ h1 d, At g σ H1 m1 τ h1 ∧ DV g.K H1 m1 v d ∧ Post g W σ H1 m1 (DV g.K) Q (k d τ h1)) := by
  obtain ⟨m, τ, h, a, p⟩ := p
  exact ⟨m, τ, h, a, (Post.bind a p).mono fun v H' ⟨m1, h1, d, a1, _, r, p1⟩ => ⟨m1, τ, h1, d, a1, r, p1⟩⟩
end
end DL

set_option Elab.async false
set_option linter.all false
set_option maxRecDepth 100000
namespace DL
open PySem PySem.Spec PyProof.Rows L2

mutual
def D.py : D → PyData
  | .non => .none | .bl b => .bool b | .int i => .int i | .str x => .str x | .tup ds => .tuple (D.pys ds) | .rol ds => .list (D.pys ds) | .ref _ => .none | .glo _ => .none
def D.pys : List D → List PyData
  | [] => [] | d :: ds => D.py d :: D.pys ds
end
mutual
def D.pure : D → Bool
  | .tup ds => D.pures ds | .rol ds => D.pures ds | .ref _ => false | .glo _ => false | _ => true
def D.pures : List D → Bool
  | [] => true | d :: ds => D.pure d && D.pures ds
end
mutual
theorem D.py_plain : ∀ d : D, d.py.plain = true
  | .non => rfl | .bl _ => rfl | .int _ => rfl | .str _ => rfl | .ref _ => rfl | .glo _ => rfl
  | .tup ds => by show PyData.plainAll (D.pys ds) = true; exact D.pys_plain ds
  | .rol ds => by show PyData.plainAll (D.pys ds) = true; exact D.pys_plain ds
theorem D.pys_plain : ∀ ds : List D, PyData.plainAll (D.pys ds) = true
  | [] => rfl
  | d :: ds => by show (PyData.plain d.py && PyData.plainAll (D.pys ds)) = true; rw [D.py_plain d, D.pys_plain ds]; rfl
end
theorem any_pys (f : PyData → Bool) : ∀ bs : List D, (D.pys bs).any f = bs.any fun y => f y.py
  | [] => rfl
  | b :: bs => by show (f b.py || (D.pys bs).any f) = _; rw [any_pys f bs]; rfl
def D.depth (d : D) : Nat := d.py.depth

section
variable {X : Cx} {pins : List (Addr × Obj)} {σ : L2.St} {H : Hp} {s : Shared} {m : List Addr}
mutual
theorem DV.reads (I : Inv X pins σ H s) : ∀ {v : V} {d : D} {u : Value}, DV X.K H m v d → d.pure = true → RelV v u → ∃ as, Reads s.heap u d.py as
  | _, _, _, .non, _, r => by cases r; exact ⟨_, Reads.none⟩
  | _, _, _, .bl b, _, r => by cases r; exact ⟨_, Reads.bool b⟩
  | _, _, _, .int i, _, r => by obtain ⟨t, rfl⟩ := r; exact ⟨_, Reads.int i t⟩
  | _, _, _, .str x, _, r => by obtain ⟨t, rfl⟩ := r; exact ⟨_, Reads.str x t⟩
  | _, _, _, .tup hs ha, p, r => by
    cases r
    obtain ⟨its, rv, ⟨o, ho, hc, n, hd⟩, _⟩ := I.tuple hs
    obtain ⟨as, hr⟩ := DVs.reads I ha p rv
    exact ⟨_, Reads.tuple ho hc hd hr⟩
  | _, _, _, .rol hs ha, p, r => by
    cases r
    obtain ⟨its, rv, ⟨o, n, ho, hc, _, hd⟩, _⟩ := I.list hs.sq
    obtain ⟨as, hr⟩ := DVs.reads I ha p rv
    exact ⟨_, Reads.list ho hc hd hr⟩
  | _, _, _, .ref _, p, _ => by cases p
  | _, _, _, .glo _, p, _ => by cases p
theorem DVs.reads (I : Inv X pins σ H s) : ∀ {vs : List V} {ds : List D} {us : List Value}, DVs X.K H m vs ds → D.pures ds = true → Vals vs us → ∃ as, ReadsAll s.heap us (D.pys ds) as
  | _, _, _, .nil, _, r => by cases r; exact ⟨_, ReadsAll.nil⟩
  | _, _, _, .cons h1 h2, p, r => by
    cases r with
    | cons r1 r2 =>
      have p' := (Bool.and_eq_true_iff.mp p)
      obtain ⟨as, q1⟩ := DV.reads I h1 p'.1 r1
      obtain ⟨bs, q2⟩ := DVs.reads I h2 p'.2 r2
      exact ⟨_, ReadsAll.cons q1 q2⟩
end
end

abbrev So := Option (D × Hd)
def ofO : So → Res D
  | some (d, h) => .ok d h
  | none => .bad
@[simp] theorem ofO_some (d : D) (h : Hd) : ofO (some (d, h)) = .ok d h := rfl
@[simp] theorem ofO_none : ofO none = .bad := rfl
def PO (g : Gd) (H : Hp) (m : List Addr) (Q : VK) : So → Prop
  | some (d, h') => ∀ v H' m', Ext H m H' m' → Rel g H' m' h' → DV g.K H' m' v d → Q v H'
  | none => False
theorem Post.po {g : Gd} {W : WX} {σ : L2.St} {H : Hp} {m : List Addr} {Q : VK} {r : So} (p : Post g W σ H m (DV g.K) Q (ofO r)) : PO g H m Q r := by
  cases r with
  | none => exact p
  | some x => exact p
def rD (g : Gd) (sem : D → D → Hd → So) : R2 := fun x y H Q => ∃ m h dx dy, Rel g H m h ∧ DV g.K H m x dx ∧ DV g.K H m y dy ∧ PO g H m Q (sem dx dy h)
def rU (g : Gd) (sem : D → Hd → So) : V → Hp → VK → Prop := fun x H Q => ∃ m h dx, Rel g H m h ∧ DV g.K H m x dx ∧ PO g H m Q (sem dx h)
def rC (g : Gd) (sem : List D → Hd → So) : List V → Hp → VK → Prop := fun xs H Q => ∃ m h ds, Rel g H m h ∧ DVs g.K H m xs ds ∧ PO g H m Q (sem ds h)
def rM (g : Gd) (sem : D → List D → Hd → So) : V → List V → Hp → VK → Prop := fun x xs H Q => ∃ m h dx ds, Rel g H m h ∧ DV g.K H m x dx ∧ DVs g.K H m xs ds ∧ PO g H m Q (sem dx ds h)
def rS (g : Gd) (sem : D → Option Int → Option Int → Hd → So) : V → Option Int → Option Int → Hp → VK → Prop := fun x lo hi H Q => ∃ m h dx, Rel g H m h ∧ DV g.K H m x dx ∧ PO g H m Q (sem dx lo hi h)

section
variable {g : Gd} {H : Hp} {m : List Addr} {Q : VK} {h : Hd} {v : V} {d : D}
theorem PO.here (p : PO g H m Q (some (d, h))) (r : Rel g H m h) (q : DV g.K H m v d) : Q v H := p v H m .refl r q
theorem PO.new {p : Addr} {u : HO} {o : OD} (q : PO g H m Q (some (.ref h.length, h ++ [o]))) (r : Rel g H m h) (hp : H p = none) (hu : OV g (upd H p u) (m ++ [p]) p o) : Q (.ref p) (upd H p u) :=
  q _ _ _ (.new hp (r.notin hp)) (r.new hp hu) (.ref (by rw [← r.len]; simp))
theorem PO.newTup {p : Addr} {xs : List V} {ds : List D} (q : PO g H m Q (some (.tup ds, h))) (r : Rel g H m h) (hp : H p = none) (hu : DVs g.K H m xs ds) : Q (.ref p) (upd H p (.tup xs)) :=
  q _ _ _ (.tupNew hp) (r.tupNew hp) (.tup (.inl (.inl upd_same)) (hu.stay (r.stay (.tupNew hp))))
theorem newLst {p : Addr} {xs : List V} {ds : List D} (r : Rel g H m h) (hp : H p = none) (hu : DVs g.K H m xs ds) : OV g (upd H p (.lst xs)) (m ++ [p]) p (.lst ds) := ⟨xs, upd_same, hu.stay (r.stay (.new hp (r.notin hp)))⟩
theorem PO.newLst {p : Addr} {xs : List V} {ds : List D} (q : PO g H m Q (some (.ref h.length, h ++ [.lst ds]))) (r : Rel g H m h) (hp : H p = none) (hu : DVs g.K H m xs ds) : Q (.ref p) (upd H p (.lst xs)) := q.new r hp (DL.newLst r hp hu)
/-- a tracked list read -/
theorem Rel.lst {n : Nat} {a : Addr} {ds : List D} (r : Rel g H m h) (e : m[n]? = some a) (e2 : h[n]? = some (.lst ds)) : ∃ xs, H a = some (.lst xs) ∧ DVs g.K H m xs ds := r.obj n a _ e e2
end

/-- a sequence by data: what it holds; true: a tuple -/
def seqOf (h : Hd) : D → Option (List D)
  | .tup ds => some ds
  | .rol ds => some ds
  | .ref n => match h[n]? with | some (.lst ds) => some ds | _ => none
  | _ => none
theorem seqOf_sq {g : Gd} {H : Hp} {m : List Addr} {h : Hd} {v : V} {d : D} {ds : List D} (r : Rel g H m h) (q : DV g.K H m v d) (e : seqOf h d = some ds) : ∃ a xs, v = .ref a ∧ (SqL g.K H a xs ∨ SqT g.K H a xs) ∧ DVs g.K H m xs ds := by
  cases q with
  | tup a b => cases e; exact ⟨_, _, rfl, .inr a, b⟩
  | rol a b => cases e; exact ⟨_, _, rfl, .inl a.sq, b⟩
  | ref a =>
    simp only [seqOf] at e
    split at e
    · cases e
      obtain ⟨xs, x, y⟩ := r.lst a (by assumption)
      exact ⟨_, _, rfl, .inl (.of x), y⟩
    · cases e
  | _ => cases e

def semAdd : D → D → Hd → So
  | .int i, .int j, h => some (.int (i + j), h)
  | .str a, .str b, h => if a.length + b.length ≤ sizeLine then some (.str (a ++ b), h) else none
  | .tup xs, .tup ys, h => if xs.length + ys.length ≤ sizeLine then some (.tup (xs ++ ys), h) else none
  | .ref a, .ref b, h => match h[a]?, h[b]? with
    | some (.lst xs), some (.lst ys) => if xs.length + ys.length ≤ sizeLine then some (.ref h.length, h ++ [.lst (xs ++ ys)]) else none
    | _, _ => none
  | _, _, _ => none
def semSub : D → D → Hd → So
  | .int i, .int j, h => some (.int (i - j), h)
  | _, _, _ => none
def semMul : D → D → Hd → So
  | .int i, .int j, h => if (-(2 ^ 64) < i ∧ i < 2 ^ 64) ∨ (-(2 ^ 64) < j ∧ j < 2 ^ 64) then some (.int (i * j), h) else none
  | .ref a, .int k, h => match h[a]? with
    | some (.lst xs) => if -(2 ^ 63) ≤ k ∧ k < 2 ^ 63 ∧ xs.length * k.toNat ≤ sizeLine then some (.ref h.length, h ++ [.lst (List.replicate k.toNat xs).flatten]) else none
    | _ => none
  | _, _, _ => none
def semDiv : D → D → Hd → So
  | .int i, .int j, h => if 0 < j ∧ j.natAbs.log2 < 9000 then some (.int (i / j), h) else none
  | _, _, _ => none
def semMod : D → D → Hd → So
  | .int i, .int j, h => if 0 < j then some (.int (i % j), h) else none
  | _, _, _ => none
def semPow : D → D → Hd → So
  | .int i, .int j, h => if 0 ≤ j ∧ j ≤ 1000000 ∧ i.natAbs < 2 ^ 64 then some (.int (i ^ j.toNat), h) else none
  | _, _, _ => none
def semCmpI (f : Int → Int → Bool) : D → D → Hd → So
  | .int i, .int j, h => some (.bl (f i j), h)
  | _, _, _ => none
def eqD (a b : D) : Option Bool := if a.pure = true ∧ b.pure = true ∧ min a.depth b.depth ≤ 40 then some (PyData.eqv a.py b.py) else none
theorem eqD_some {a b : D} {k : Bool} (e : eqD a b = some k) : a.pure = true ∧ b.pure = true ∧ min a.depth b.depth ≤ 40 ∧ k = PyData.eqv a.py b.py := by
  unfold eqD at e
  by_cases c : a.pure = true ∧ b.pure = true ∧ min a.depth b.depth ≤ 40
  · rw [if_pos c] at e; cases e; exact ⟨c.1, c.2.1, c.2.2, rfl⟩
  · rw [if_neg c] at e; cases e
def semEq (neg : Bool) (a b : D) (h : Hd) : So := (eqD a b).map fun k => (.bl (if neg then !k else k), h)
def inD (a : D) (bs : List D) : Option Bool := if a.pure = true ∧ D.pures bs = true ∧ a.depth ≤ 40 then some (bs.any fun y => PyData.eqv y.py a.py) else none
theorem inD_some {a : D} {bs : List D} {k : Bool} (e : inD a bs = some k) : a.pure = true ∧ D.pures bs = true ∧ a.depth ≤ 40 ∧ k = bs.any fun y => PyData.eqv y.py a.py := by
  unfold inD at e
  by_cases c : a.pure = true ∧ D.pures bs = true ∧ a.depth ≤ 40
  · rw [if_pos c] at e; cases e; exact ⟨c.1, c.2.1, c.2.2, rfl⟩
  · rw [if_neg c] at e; cases e
def semIn (neg : Bool) (a b : D) (h : Hd) : So := match b with
  | .tup bs => (inD a bs).map fun k => (.bl (if neg then !k else k), h)
  | .ref n => match h[n]? with
    | some (.lst bs) => (inD a bs).map fun k => (.bl (if neg then !k else k), h)
    | _ => none
  | _ => none
def semIs (neg : Bool) (a b : D) (h : Hd) : So := match b, a with
  | .non, .glo _ => none
  | .non, .non => some (.bl !neg, h)
  | .non, _ => some (.bl neg, h)
  | _, _ => none
def semNeg : D → Hd → So
  | .int i, h => some (.int (-i), h)
  | _, _ => none
def semIx (a i : D) (h : Hd) : So := match a, i with
  | .str z, .int i => if z.length ≤ sizeLine then (atI z.cps.toList i).map fun c => (.str ⟨#[c]⟩, h) else none
  | a, .int i => match seqOf h a with
    | some ds => (atI ds i).map fun d => (d, h)
    | none => none
  | _, _ => none
def cutD (ds : List D) (lo hi : Option Int) : List D := (ds.drop (HT.sIx ds.length 0 lo)).take (HT.sIx ds.length ds.length hi - HT.sIx ds.length 0 lo)
def semSl (a : D) (lo hi : Option Int) (h : Hd) : So := match a with
  | .tup ds => some (.tup (cutD ds lo hi), h)
  | .ref n => match h[n]? with
    | some (.lst ds) => some (.ref h.length, h ++ [.lst (cutD ds lo hi)])
    | _ => none
  | _ => none

section
variable {X : Cx} {g : Gd}
theorem op_or {X : Cx} {f : Value → Value → Sem Value} {r r' : R2} (h : OpR X f r) (w : ∀ x y H Q, r' x y H Q → r x y H Q) : OpR X f r' := fun pins s σ H x y v u Q I rx ry q => h pins s σ H x y v u Q I rx ry (w _ _ _ _ q)
theorem atI_dv {K : PySem.W.Frag} {H : Hp} {m : List Addr} {xs : List V} {ds : List D} {i : Int} {d : D} (r : DVs K H m xs ds) (e : atI ds i = some d) : ∃ v, atI xs i = some v ∧ DV K H m v d := by
  unfold atI at e ⊢
  rw [r.length]
  cases q : ixN ds.length i with
  | none => rw [q] at e; cases e
  | some j =>
    rw [q] at e
    exact r.get (by simpa using e)

theorem o_add (hK : X.K = g.K) : OpR X (binaryOp .Add) (rD g semAdd) := by
  refine op_or ((op_add (X := X)).or (op_add_str.or (op_catA.or op_cat))) fun x y H Q ⟨m, h, dx, dy, r, qx, qy, p⟩ => ?_
  cases qx with
  | int i => cases qy with
    | int j => exact .inl ⟨_, _, rfl, rfl, p.here r (.int _)⟩
    | _ => exact p.elim
  | str a => cases qy with
    | str b =>
      simp only [semAdd] at p
      split at p
      · exact .inr (.inl ⟨_, _, rfl, rfl, by assumption, p.here r (.str _)⟩)
      · exact p.elim
    | _ => exact p.elim
  | tup a b => cases qy with
    | tup a' b' =>
      simp only [semAdd] at p
      split at p
      · rename_i hz
        rw [← b.length, ← b'.length] at hz
        refine .inr (.inr (.inl ⟨_, _, _, _, rfl, rfl, hK ▸ a, hK ▸ a', hz, fun e => ?_, fun _ e => ?_, fun _ _ q hq => p.newTup r hq (b.append b')⟩))
        · subst e; cases b; exact p.here r (.tup a' (by simpa using b'))
        · subst e; cases b'; exact p.here r (.tup a (by simpa using b))
      · exact p.elim
    | _ => exact p.elim
  | ref a => cases qy with
    | ref b =>
      simp only [semAdd] at p
      split at p
      · rename_i e1 e2
        split at p
        · rename_i hz
          obtain ⟨xs, x1, x2⟩ := r.lst a e1
          obtain ⟨ys, y1, y2⟩ := r.lst b e2
          rw [← x2.length, ← y2.length] at hz
          exact .inr (.inr (.inr ⟨_, _, _, _, rfl, rfl, x1, y1, hz, fun q hq => p.newLst r hq (x2.append y2)⟩))
        · exact p.elim
      · exact p.elim
    | _ => exact p.elim
  | _ => exact p.elim
theorem o_int {op : Value → Value → Sem Value} {C : Int → Int → Prop} {f : Int → Int → V} {f' : Int → Int → D} {sem : D → D → Hd → So} (ho : OpR X op (rI C f)) (hf : ∀ i j K H m, DV K H m (f i j) (f' i j))
    (hs : ∀ a b h, sem a b h = none ∨ ∃ i j, a = .int i ∧ b = .int j ∧ C i j ∧ sem a b h = some (f' i j, h)) : OpR X op (rD g sem) := by
  refine op_or ho fun x y H Q ⟨m, h, dx, dy, r, qx, qy, p⟩ => ?_
  rcases hs dx dy h with e | ⟨i, j, rfl, rfl, c, e⟩
  · rw [e] at p; exact p.elim
  · rw [e] at p
    cases qx; cases qy
    exact ⟨_, _, rfl, rfl, c, p.here r (hf _ _ _ _ _)⟩
theorem rI0C {X : Cx} {op : Value → Value → Sem Value} {f : Int → Int → V} (ho : OpR X op (rI0 f)) : OpR X op (rI (fun _ _ => True) f) := op_or ho fun x y H Q ⟨i, j, a, b, _, q⟩ => ⟨i, j, a, b, q⟩
theorem o_sub : OpR X (binaryOp .Sub) (rD g semSub) := o_int (f' := fun i j => .int (i - j)) (rI0C op_sub) (fun _ _ _ _ _ => .int _) fun a b h => by
  unfold semSub; split
  · exact .inr ⟨_, _, rfl, rfl, trivial, rfl⟩
  · exact .inl rfl
theorem o_div : OpR X (binaryOp .FloorDiv) (rD g semDiv) := o_int (f' := fun i j => .int (i / j)) op_fdivW (fun _ _ _ _ _ => .int _) fun a b h => by
  unfold semDiv; split
  · split
    · exact .inr ⟨_, _, rfl, rfl, by assumption, rfl⟩
    · exact .inl rfl
  · exact .inl rfl
theorem o_mod : OpR X (binaryOp .Mod) (rD g semMod) := o_int (f' := fun i j => .int (i % j)) op_mod (fun _ _ _ _ _ => .int _) fun a b h => by
  unfold semMod; split
  · split
    · exact .inr ⟨_, _, rfl, rfl, by assumption, rfl⟩
    · exact .inl rfl
  · exact .inl rfl
theorem o_pow : OpR X (binaryOp .Pow) (rD g semPow) := o_int (f' := fun i j => .int (i ^ j.toNat)) op_pow (fun _ _ _ _ _ => .int _) fun a b h => by
  unfold semPow; split
  · split
    · exact .inr ⟨_, _, rfl, rfl, by assumption, rfl⟩
    · exact .inl rfl
  · exact .inl rfl
theorem o_mul : OpR X (binaryOp .Mult) (rD g semMul) := by
  refine op_or ((op_mul (X := X)).or op_rep) fun x y H Q ⟨m, h, dx, dy, r, qx, qy, p⟩ => ?_
  cases qx with
  | int i => cases qy with
    | int j =>
      simp only [semMul] at p
      split at p
      · exact .inl ⟨_, _, rfl, rfl, by assumption, p.here r (.int _)⟩
      · exact p.elim
    | _ => exact p.elim
  | ref a => cases qy with
    | int k =>
      simp only [semMul] at p
      split at p
      · rename_i e1
        split at p
        · rename_i hz
          obtain ⟨xs, x1, x2⟩ := r.lst a e1
          rw [← x2.length] at hz
          exact .inr ⟨_, _, _, rfl, rfl, x1, hz.1, hz.2.1, hz.2.2, fun q hq => p.newLst r hq (x2.rep _)⟩
        · exact p.elim
      · exact p.elim
    | _ => exact p.elim
  | _ => exact p.elim
theorem o_cmp {op : Value → Value → Sem Value} {f : Int → Int → Bool} (ho : OpR X op (rI0 fun i j => .bl (f i j))) : OpR X op (rD g (semCmpI f)) := o_int (f' := fun i j => .bl (f i j)) (rI0C ho) (fun _ _ _ _ _ => .bl _) fun a b h => by
  unfold semCmpI; split
  · exact .inr ⟨_, _, rfl, rfl, trivial, rfl⟩
  · exact .inl rfl
theorem o_lt : OpR X (compareOp .Lt) (rD g (semCmpI fun i j => decide (i < j))) := o_cmp op_lt
theorem o_le : OpR X (compareOp .LtE) (rD g (semCmpI fun i j => decide (i ≤ j))) := o_cmp op_le
theorem o_gt : OpR X (compareOp .Gt) (rD g (semCmpI fun i j => decide (j < i))) := o_cmp op_gt
theorem o_ge : OpR X (compareOp .GtE) (rD g (semCmpI fun i j => decide (j ≤ i))) := o_cmp op_ge
theorem o_eq (hK : X.K = g.K) (hu : X.A.units + 64 < cLine) : OpR X (compareOp .Eq) (rD g (semEq false)) := by
  intro pins s σ H x y v u Q I rx ry ⟨m, h, dx, dy, r, qx, qy, p⟩
  unfold semEq at p
  cases e : eqD dx dy with
  | none => rw [e] at p; exact p.elim
  | some k =>
    rw [e] at p
    obtain ⟨c1, c2, c3, rfl⟩ := eqD_some e
    obtain ⟨as, r1⟩ := DV.reads I (hK ▸ qx) c1 rx
    obtain ⟨bs, r2⟩ := DV.reads I (hK ▸ qy) c2 ry
    exact SeqAt.eq_plain r1 r2 dx.py_plain dy.py_plain (by unfold D.depth at c3; omega) ⟨.bl _, H, I, rfl, p.here r (.bl _)⟩
theorem o_ne (hK : X.K = g.K) (hu : X.A.units + 64 < cLine) : OpR X (compareOp .NotEq) (rD g (semEq true)) := by
  intro pins s σ H x y v u Q I rx ry ⟨m, h, dx, dy, r, qx, qy, p⟩
  unfold semEq at p
  cases e : eqD dx dy with
  | none => rw [e] at p; exact p.elim
  | some k =>
    rw [e] at p
    obtain ⟨c1, c2, c3, rfl⟩ := eqD_some e
    obtain ⟨as, r1⟩ := DV.reads I (hK ▸ qx) c1 rx
    obtain ⟨bs, r2⟩ := DV.reads I (hK ▸ qy) c2 ry
    exact SeqAt.ne_plain r1 r2 dx.py_plain dy.py_plain (by unfold D.depth at c3; omega) ⟨.bl _, H, I, rfl, p.here r (.bl _)⟩
theorem o_in (hK : X.K = g.K) (hu : X.A.units + 64 < cLine) : OpR X (compareOp .In) (rD g (semIn false)) := by
  intro pins s σ H x y v u Q I rx ry ⟨m, h, dx, dy, r, qx, qy, p⟩
  have one : ∀ {bs : List D} {k : Bool}, inD dx bs = some k → dx.pure = true ∧ D.pures bs = true ∧ dx.depth ≤ 40 ∧ k = bs.any fun y => PyData.eqv y.py dx.py := inD_some
  cases qy with
  | tup a b =>
    rename_i bs
    have p' : PO g H m Q ((inD dx bs).map fun k => (.bl (if false = true then !k else k), h)) := p
    cases e : inD dx bs with
    | none => rw [e] at p'; exact p'.elim
    | some k =>
      rw [e] at p'
      obtain ⟨c1, c2, c3, rfl⟩ := one e
      obtain ⟨as, r1⟩ := DV.reads I (hK ▸ qx) c1 rx
      obtain ⟨bs', r2⟩ := DV.reads I (m := m) (hK ▸ DV.tup a b) (show (D.tup _).pure = true from c2) ry
      refine SeqAt.in_tuple_data r2 r1 (D.pys_plain _) dx.py_plain (by unfold D.depth at c3; omega) ⟨.bl _, H, I, rfl, ?_⟩
      rw [any_pys]
      exact p'.here r (.bl _)
  | ref a =>
    rename_i n
    cases eh : h[n]? with
    | none => simp only [semIn, eh] at p; exact p.elim
    | some o =>
      cases o with
      | lst bs =>
        have p' : PO g H m Q ((inD dx bs).map fun k => (.bl (if false = true then !k else k), h)) := by simpa only [semIn, eh] using p
        cases e : inD dx bs with
        | none => rw [e] at p'; exact p'.elim
        | some k =>
          rw [e] at p'
          obtain ⟨c1, c2, c3, rfl⟩ := one e
          obtain ⟨xs, x1, x2⟩ := r.lst a eh
          obtain ⟨as, r1⟩ := DV.reads I (hK ▸ qx) c1 rx
          cases ry
          obtain ⟨its, rv, ⟨o, n, ho, hc, _, hd⟩, _⟩ := I.list (.of x1)
          obtain ⟨bs', hr⟩ := DVs.reads I (hK ▸ x2) c2 rv
          refine SeqAt.in_list_data (Reads.list ho hc hd hr) r1 (D.pys_plain _) dx.py_plain (by unfold D.depth at c3; omega) ⟨.bl _, H, I, rfl, ?_⟩
          rw [any_pys]
          exact p'.here r (.bl _)
      | dct => simp only [semIn, eh] at p; exact p.elim
      | ins => simp only [semIn, eh] at p; exact p.elim
  | _ => exact p.elim
theorem o_notin (hK : X.K = g.K) (hu : X.A.units + 64 < cLine) : OpR X (compareOp .NotIn) (rD g (semIn true)) := by
  intro pins s σ H x y v u Q I rx ry ⟨m, h, dx, dy, r, qx, qy, p⟩
  have one : ∀ {bs : List D} {k : Bool}, inD dx bs = some k → dx.pure = true ∧ D.pures bs = true ∧ dx.depth ≤ 40 ∧ k = bs.any fun y => PyData.eqv y.py dx.py := inD_some
  cases qy with
  | tup a b =>
    rename_i bs
    have p' : PO g H m Q ((inD dx bs).map fun k => (.bl (if true = true then !k else k), h)) := p
    cases e : inD dx bs with
    | none => rw [e] at p'; exact p'.elim
    | some k =>
      rw [e] at p'
      obtain ⟨c1, c2, c3, rfl⟩ := one e
      obtain ⟨as, r1⟩ := DV.reads I (hK ▸ qx) c1 rx
      obtain ⟨bs', r2⟩ := DV.reads I (m := m) (hK ▸ DV.tup a b) (show (D.tup _).pure = true from c2) ry
      refine SeqAt.notIn_tuple_data r2 r1 (D.pys_plain _) dx.py_plain (by unfold D.depth at c3; omega) ⟨.bl _, H, I, rfl, ?_⟩
      rw [any_pys]
      exact p'.here r (.bl _)
  | ref a =>
    rename_i n
    cases eh : h[n]? with
    | none => simp only [semIn, eh] at p; exact p.elim
    | some o =>
      cases o with
      | lst bs =>
        have p' : PO g H m Q ((inD dx bs).map fun k => (.bl (if true = true then !k else k), h)) := by simpa only [semIn, eh] using p
        cases e : inD dx bs with
        | none => rw [e] at p'; exact p'.elim
        | some k =>
          rw [e] at p'
          obtain ⟨c1, c2, c3, rfl⟩ := one e
          obtain ⟨xs, x1, x2⟩ := r.lst a eh
          obtain ⟨as, r1⟩ := DV.reads I (hK ▸ qx) c1 rx
          cases ry
          obtain ⟨its, rv, ⟨o, n, ho, hc, _, hd⟩, _⟩ := I.list (.of x1)
          obtain ⟨bs', hr⟩ := DVs.reads I (hK ▸ x2) c2 rv
          refine SeqAt.notIn_list_data (Reads.list ho hc hd hr) r1 (D.pys_plain _) dx.py_plain (by unfold D.depth at c3; omega) ⟨.bl _, H, I, rfl, ?_⟩
          rw [any_pys]
          exact p'.here r (.bl _)
      | dct => simp only [semIn, eh] at p; exact p.elim
      | ins => simp only [semIn, eh] at p; exact p.elim
  | _ => exact p.elim
theorem o_is : OpR X (compareOp .Is) (rD g (semIs false)) := by
  refine op_or op_isN fun x y H Q ⟨m, h, dx, dy, r, qx, qy, p⟩ => ?_
  cases qy with
  | non =>
    refine ⟨rfl, ?_⟩
    cases qx with
    | non => exact p.here r (.bl _)
    | glo => exact p.elim
    | _ => exact p.here r (.bl _)
  | _ => exact p.elim
theorem o_isnot : OpR X (compareOp .IsNot) (rD g (semIs true)) := by
  refine op_or op_notN fun x y H Q ⟨m, h, dx, dy, r, qx, qy, p⟩ => ?_
  cases qy with
  | non =>
    refine ⟨rfl, ?_⟩
    cases qx with
    | non => exact p.here r (.bl _)
    | glo => exact p.elim
    | _ => exact p.here r (.bl _)
  | _ => exact p.elim
theorem u_neg : UnR X (unaryOp .USub) (rU g semNeg) := by
  intro pins s σ H x v Q I rx ⟨m, h, dx, r, qx, p⟩
  cases qx with
  | int i => exact un_neg pins s σ H _ v Q I rx ⟨_, rfl, p.here r (.int _)⟩
  | _ => exact p.elim
theorem ix_or {X : Cx} {r r' : R2} (h : IxR X r) (w : ∀ x y H Q, r' x y H Q → r x y H Q) : IxR X r' := fun va sl pins s σ H x y v u Q I rx ry q => h va sl pins s σ H x y v u Q I rx ry (w _ _ _ _ q)
theorem i_ix (hK : X.K = g.K) : IxR X (rD g semIx) := by
  refine ix_or ix_seq fun x y H Q ⟨m, h, dx, dy, r, qx, qy, p⟩ => ?_
  have hh : ∀ {d : D} {i : Int} {ds : List D} {v : V}, DV g.K H m v d → seqOf h d = some ds → PO g H m Q ((atI ds i).map fun d => (d, h)) → rIx X.K v (.int i) H Q := fun {d i ds v} q e p => by
    obtain ⟨a, xs, rfl, hs, hd⟩ := seqOf_sq r q e
    cases ea : atI ds i with
    | none => rw [ea] at p; exact p.elim
    | some z =>
      rw [ea] at p
      obtain ⟨w, e1, q1⟩ := atI_dv hd ea
      rcases hs with hs | hs
      · exact .inl ⟨_, _, _, _, rfl, rfl, hK ▸ hs, e1, p.here r q1⟩
      · exact .inr (.inl ⟨_, _, _, _, rfl, rfl, hK ▸ hs, e1, p.here r q1⟩)
  cases qy with
  | int i =>
    cases qx with
    | str z =>
      simp only [semIx] at p
      split at p
      · cases ea : atI z.cps.toList i with
        | none => rw [ea] at p; exact p.elim
        | some c =>
          rw [ea] at p
          exact .inr (.inr ⟨_, _, _, rfl, rfl, by assumption, ea, p.here r (.str _)⟩)
      · exact p.elim
    | tup a b => exact hh (.tup a b) rfl p
    | rol a b => exact hh (.rol a b) rfl p
    | ref a =>
      have p' : PO g H m Q (match seqOf h (.ref _) with | some ds => (atI ds i).map fun d => (d, h) | none => none) := p
      split at p'
      · exact hh (.ref a) (by assumption) p'
      · exact p'.elim
    | _ => exact p.elim
  | _ => cases qx <;> exact p.elim
theorem cutD_dv {K : PySem.W.Frag} {H : Hp} {m : List Addr} {xs : List V} {ds : List D} (r : DVs K H m xs ds) (lo hi : Option Int) : DVs K H m (cutV xs lo hi) (cutD ds lo hi) := by
  unfold cutV cutD
  rw [r.length]
  exact (r.drop _).take _
theorem s_sl (hK : X.K = g.K) : SlR X (rS g semSl) := by
  intro pins s σ H x v vl vu lo hi sl Q I rx hs pl pu ⟨m, h, dx, r, qx, p⟩
  refine (sl_tupA.or sl_list) pins s σ H x v vl vu lo hi sl Q I rx hs pl pu ?_
  cases qx with
  | tup a b =>
    refine .inl ⟨_, _, rfl, hK ▸ a, fun e => ?_, fun _ q hq => p.newTup r hq (cutD_dv b lo hi)⟩
    rw [b.length] at e
    refine p.here r (.tup a ?_)
    unfold cutD
    rw [e.1, e.2]
    simpa using b
  | ref a =>
    simp only [semSl] at p
    split at p
    · rename_i e1
      obtain ⟨xs, x1, x2⟩ := r.lst a e1
      exact .inr ⟨_, _, rfl, .of x1, fun q hq => p.newLst r hq (cutD_dv x2 lo hi)⟩
    · exact p.elim
  | _ => exact p.elim

def truD (d : D) (h : Hd) : Option Bool := match d with
  | .non => some false
  | .bl b => some b
  | .int i => some (i != 0)
  | .str y => if y.length ≤ sizeLine then some ((y.length : Int) != 0) else none
  | .glo _ => none
  | d => (seqOf h d).map fun ds => !ds.isEmpty
theorem isE {K : PySem.W.Frag} {H : Hp} {m : List Addr} {xs : List V} {ds : List D} (r : DVs K H m xs ds) : (!ds.isEmpty) = !xs.isEmpty := by cases r <;> rfl
theorem truD_ok (hK : X.K = g.K) {H : Hp} {m : List Addr} {h : Hd} {v : V} {d : D} {k : Bool} (r : Rel g H m h) (q : DV g.K H m v d) (e : truD d h = some k) : TruV X.K v H k := by
  have hh : ∀ {d : D} {v : V}, DV g.K H m v d → (seqOf h d).map (fun ds => !ds.isEmpty) = some k → TruV X.K v H k := fun {d v} q e => by
    cases e1 : seqOf h d with
    | none => rw [e1] at e; cases e
    | some ds =>
      rw [e1] at e
      cases e
      obtain ⟨a, xs, rfl, hs, hd⟩ := seqOf_sq r q e1
      rcases hs with hs | hs
      · exact .inl ⟨_, hK ▸ hs, isE hd⟩
      · exact .inr (.inl ⟨_, hK ▸ hs, isE hd⟩)
  cases q with
  | non => cases e; rfl
  | bl b => cases e; rfl
  | int i => cases e; rfl
  | str x =>
    simp only [truD] at e
    split at e
    · cases e; exact ⟨by assumption, rfl⟩
    · cases e
  | tup a b => exact hh (.tup a b) e
  | rol a b => exact hh (.rol a b) e
  | ref a => exact hh (.ref a) e
  | glo => cases e
end
end DL

set_option Elab.async false
set_option linter.all false
set_option maxRecDepth 100000
namespace PySem.W
open PySem PySem.Calls PyProof.Rows
section
variable {prog : Program} {w : World} {A : Around} {E : Value → Shared → Prop} {s : Shared} {a kS : Addr} {b : Bool} {vs : List Value} {e1 : Nat} {P : PySem.Fin → Shared → Prop} {f : Value}
/-- the key's turns, J what stands behind i of them -/
theorem dlk_rest (J : Nat → Array Value → Shared → Prop) (hJ : ∀ i ks s', J i ks s' → ks.size = i ∧ ∃ e, s'.heap.get? kS = some (seqObj "list" ks e)) (hZ : vs.length ≤ sizeLine) (start : J 0 #[] s)
    (turn : ∀ (i : Nat) (v : Value) (ks : Array Value) (s' : Shared), vs[i]? = some v → J i ks s' →
      wpAny (model prog w) A (call f [v]) (fun u s'' => (∃ e, s''.heap.get? kS = some (seqObj "list" ks e)) ∧ J (i + 1) (ks.push u) { s'' with heap := s''.heap.update kS (Obj.mapSeq (·.push u)) }) (fun _ _ => False) s')
    (fin : ∀ ks s', J vs.length ks s' → wpAny (model prog w) A (ksk_end a b vs.toArray e1 (.ref kS) ks) P E s') :
    wpAny (model prog w) A (ksk_rest a f b vs.toArray e1 (.ref kS)) P E s := by
  unfold ksk_rest
  refine wpAny_bind (wpAny_rule ?_)
  first
    | rw [List.forIn_toArray]
    | (rw [← Array.forIn_toList]; simp only [List.toList_toArray])
    | rw [← Array.forIn_toList]
  refine wpAny_bind (ksk_fold (fun i s' => ∃ ks, J i ks s') vs 0 s ⟨#[], start⟩ ?goOn ?atEnd)
  case goOn =>
    rintro j x s' hx ⟨ks, hj⟩
    rw [Nat.zero_add] at hj ⊢
    have hlt : j < vs.length := (List.getElem?_eq_some_iff.mp hx).1
    refine wpAny_bind (wpAny_attempt (wpAny_mono (turn j x ks s' hx hj) (fun v s'' he => ?_) fun _ _ hF => hF.elim))
    obtain ⟨⟨e, nk⟩, hj'⟩ := he
    try dsimp only
    have hs := (hJ j ks s' hj).1
    exact wpAny_bind (listUpdate_at nk rfl (wpAny_pure ⟨rfl, _, hj'⟩) (by omega) (by rw [Array.size_push]; omega))
  case atEnd =>
    rintro s' ⟨ks, hj⟩
    rw [Nat.zero_add] at hj
    obtain ⟨_, e, nk⟩ := hJ _ ks s' hj
    try dsimp only
    exact wpAny_bind (listItems_at nk rfl (fin ks s' hj))
theorem dlk_tree {n : Nat} (ho : s.heap.get? a = some (seqObj "list" vs.toArray n)) (hZ : vs.length ≤ sizeLine)
    (body : ∀ (q : Addr) (e1 : Nat) (h' : Heap), q ≠ a → s.heap.objs.size ≤ q → KeepsBut a s.heap h' → h'.get? q = some (seqObj "list" #[] 0) → h'.get? a = some (seqObj "list" #[] e1) →
      wpAny (model prog w) A (ksk_rest a f b vs.toArray e1 (.ref q)) P E { s with heap := h' }) :
    wpAny (model prog w) A (ksk_tree a f b) P E s := by
  have ha : a < s.heap.objs.size := Heap.lt_size ho
  obtain ⟨e1, ho1⟩ : ∃ e1, (s.heap.update a (Obj.mapSeq fun _ => (#[] : Array Value))).get? a = some (seqObj "list" #[] e1) := ⟨_, get?_update_seq ho fun _ => #[]⟩
  have hkS : ((s.heap.update a (Obj.mapSeq fun _ => (#[] : Array Value))).push (seqObj "tuple" vs.toArray 0)).objs.size = s.heap.objs.size + 1 := by rw [size_push', Heap.size_update]
  unfold ksk_tree
  refine wpAny_bind (listItems_at ho rfl ?_)
  refine wpAny_bind (listUpdate_at ho rfl ?_ (by rw [List.size_toArray]; exact hZ) (Nat.zero_le _))
  refine wpAny_bind (seqEpoch_at ho1 rfl ?_)
  refine wpAny_bind (wpAny_newTuple ?_ (by show vs.length ≤ _; exact hZ))
  refine wpAny_bind (wpAny_newList ?_ (Nat.zero_le _))
  refine wpAny_holding ?_
  exact body _ _ _ (by rw [hkS]; exact Nat.ne_of_gt (Nat.lt_succ_of_lt ha)) (by rw [hkS]; exact Nat.le_succ _) (fun b o hb q => sortingHeap_old hb q) (Heap.get?_push_size _ rfl) (Heap.get?_push_of_some _ (Heap.get?_push_of_some _ ho1))
/-- sorted(l, key=f) from an invariant of the key's calls -/
theorem dlk_sorted {l : Addr} {kw : List (Str × Value)} {Q : Value → Shared → Prop} (hl : s.heap.IsList l vs.toArray) (hL : vs.length ≤ sizeLine) (ha1 : argsOk "sorted" ⟨[.ref l], kw⟩) (ha2 : ∀ x, argsOk "list.sort" ⟨[.ref x], kw⟩) (ht : ∀ x, Builtin.«list.sort» ⟨[.ref x], kw⟩ = ksk_tree x f b)
    (body : ∀ (E' : Value → Shared → Prop) (q : Addr) (e1 : Nat) (h' : Heap), q ≠ s.heap.objs.size + 1 → s.heap.objs.size ≤ q → (∀ b o, s.heap.get? b = some o → h'.get? b = some o) → h'.get? q = some (seqObj "list" #[] 0) → h'.get? (s.heap.objs.size + 1) = some (seqObj "list" #[] e1) →
      wpAny (model prog w) A.in1.in1 (ksk_rest (s.heap.objs.size + 1) f b vs.toArray e1 (.ref q)) (fun fl s' => fl = .done (.ret .none) ∧ Q (.ref (s.heap.objs.size + 1)) s') E' { s with heap := h' }) :
    wpAny (model prog w) A (call (.builtin "sorted") [.ref l] kw) Q E s := by
  have sz : s.heap.objs.size ≤ (copyHeap s.heap vs).objs.size := by
    exact Nat.le_of_lt (Nat.lt_of_succ_lt (Heap.lt_size (copyHeap_at s.heap vs)))
  refine sorted_of_sort hl hL ha1 ha2 fun E' => ?_
  rw [ht]
  refine dlk_tree (s := { s with heap := copyHeap s.heap vs }) (copyHeap_at s.heap vs) hL fun q e1 h' n1 n2 kp h1 h2 => ?_
  exact body E' q e1 h' n1 (Nat.le_trans sz n2) (fun b o e => kp b o (Nat.ne_of_lt (Nat.lt_succ_of_lt (Heap.lt_size e))) (copyHeap_old e)) h1 h2
end
end PySem.W
namespace DL
open PySem PySem.Spec PyProof.Rows L2
open PySem.W (EachIs)

noncomputable def keysL (F : D → Hd → Res D) : List D → Hd → Res (List D)
  | [], h => .ok [] h
  | d :: ds, h => (F d h).bind fun k h1 => (keysL F ds h1).bind fun ks h2 => .ok (k :: ks) h2
structure SortsOk (ks : List D) : Prop where
  pure : D.pures ks = true
  alike : PySem.W.AllAlike (ks.map D.py)
  sorts : PySem.W.Sortable (ks.map D.py)
  depth : ∀ k ∈ ks, k.depth ≤ 40
noncomputable def sortB (bs : List (D × D)) : List D := (bs.mergeSort (PySem.W.dataLe false fun p => p.2.py)).map (·.1)
theorem keysL_cons {F : D → Hd → Res D} {d : D} {ds : List D} {h h2 : Hd} {r : List D} (e : keysL F (d :: ds) h = .ok r h2) : ∃ k h1 ks, F d h = .ok k h1 ∧ keysL F ds h1 = .ok ks h2 ∧ r = k :: ks := by
  show ∃ k h1 ks, _
  unfold keysL at e
  cases q : F d h with
  | ok k h1 =>
    rw [q, Res.bind_ok] at e
    cases q2 : keysL F ds h1 with
    | ok ks h3 => rw [q2, Res.bind_ok] at e; cases e; exact ⟨k, h1, ks, rfl, q2, rfl⟩
    | ex x h3 => rw [q2] at e; cases e
    | bad => rw [q2] at e; cases e
  | ex x h1 => rw [q] at e; cases e
  | bad => rw [q] at e; cases e
theorem keysL_len {F : D → Hd → Res D} : ∀ {ds : List D} {h h2 : Hd} {r : List D}, keysL F ds h = .ok r h2 → r.length = ds.length
  | [], _, _, _, e => by cases e; rfl
  | d :: ds, _, _, _, e => by
    obtain ⟨k, h1, ks, _, e2, rfl⟩ := keysL_cons e
    rw [List.length_cons, List.length_cons, keysL_len e2]

/-- objects that stand besides the places -/
def Live (live : List (Addr × HO)) (H : Hp) (m : List Addr) : Prop := ∀ p ∈ live, H p.1 = some p.2 ∧ p.1 ∉ m ∧ ∀ ps, p.2 ≠ .tbl ps
theorem Live.ext {live : List (Addr × HO)} {H H' : Hp} {m m' : List Addr} (l : Live live H m) (x : Ext H m H' m') : Live live H' m' := fun p hp => by
  obtain ⟨h1, h2, h3⟩ := l p hp
  refine ⟨x.keep _ _ h2 h1 h3, fun z => ?_, h3⟩
  obtain ⟨e', rfl, q⟩ := x.pre
  rcases List.mem_append.mp z with z | z
  · exact h2 z
  · obtain ⟨ps, w⟩ := (q _ z).1 _ h1
    exact h3 ps w
/-- f's call on one value, inside sorted -/
def KCall (X : Cx) (g : Gd) (f : Value) (pins0 : List (Addr × Obj)) (live : List (Addr × HO)) (F : D → Hd → Res D) : Prop :=
  ∀ (pins : List (Addr × Obj)) (s : Shared) (σ : L2.St) (H : Hp) (m : List Addr) (h : Hd) (x : V) (d : D) (u : Value) (k : D) (h1 : Hd), pins0 ⊆ pins → Inv X pins σ H s → RelV x u → Rel g H m h → Live live H m → DV g.K H m x d → F d h = .ok k h1 →
    wpAny (model X.prog X.w) X.A.in1.in1 (call f [u]) (EP X pins σ fun v H' => ∃ m', Ext H m H' m' ∧ Rel g H' m' h1 ∧ DV g.K H' m' v k) (fun _ _ => False) s
theorem each_of {α β : Type} {R : α → β → Prop} : ∀ {as : List α} {bs : List β}, as.length = bs.length → (∀ (i : Nat) a b, as[i]? = some a → bs[i]? = some b → R a b) → EachIs R as bs
  | [], [], _, _ => .nil
  | [], _ :: _, h, _ => by cases h
  | _ :: _, [], h, _ => by cases h
  | a :: as, b :: bs, h, f => .cons (f 0 a b rfl rfl) (each_of (by simpa using h) fun i x y e1 e2 => f (i + 1) x y (by simpa using e1) (by simpa using e2))
theorem each_at {α β : Type} {R : α → β → Prop} : ∀ {as : List α} {bs : List β} {i : Nat} {b : β}, EachIs R as bs → bs[i]? = some b → ∃ a, as[i]? = some a ∧ R a b
  | _, _, _, _, .nil, e => by simp at e
  | _, _, 0, _, .cons r _, e => by simp at e; subst e; exact ⟨_, rfl, r⟩
  | _, _, i + 1, b, .cons _ t, e => by
    obtain ⟨u, h1, h2⟩ := each_at (i := i) (b := b) t (by simpa using e)
    exact ⟨u, by simpa using h1, h2⟩
theorem each_len {α β : Type} {R : α → β → Prop} : ∀ {as : List α} {bs : List β}, EachIs R as bs → as.length = bs.length
  | _, _, .nil => rfl
  | _, _, .cons _ t => congrArg (· + 1) (each_len t)
/-- values that stand for data: split into the layer's values -/
theorem each_dvs {g : Gd} {H : Hp} {m : List Addr} : ∀ {us : List Value} {ds : List (D × D)}, EachIs (fun u d => ∃ x, RelV x u ∧ DV g.K H m x d.1) us ds → ∃ xs, Vals xs us ∧ DVs g.K H m xs (ds.map (·.1))
  | _, _, .nil => ⟨[], .nil, .nil⟩
  | _, _, .cons ⟨x, r, d⟩ t => by
    obtain ⟨xs, h1, h2⟩ := each_dvs t
    exact ⟨x :: xs, .cons r h1, .cons d h2⟩
theorem vals_get' {xs : List V} {us : List Value} {i : Nat} {u : Value} (r : Vals xs us) (e : us[i]? = some u) : ∃ x, xs[i]? = some x ∧ RelV x u := by
  have hi : i < xs.length := by rw [r.length]; exact (List.getElem?_eq_some_iff.mp e).1
  obtain ⟨w, h1, h2⟩ := r.get (List.getElem?_eq_getElem hi)
  rw [e] at h1
  cases h1
  exact ⟨_, List.getElem?_eq_getElem hi, h2⟩
theorem pures_at : ∀ {ds : List D} {d : D}, D.pures ds = true → d ∈ ds → d.pure = true
  | [], _, _, h => nomatch h
  | x :: xs, d, p, h => by
    have p' : (x.pure && D.pures xs) = true := p
    rw [Bool.and_eq_true] at p'
    rcases List.mem_cons.mp h with rfl | h
    · exact p'.1
    · exact pures_at p'.2 h
section
variable {X : Cx} {g : Gd} {pins pins0 : List (Addr × Obj)} {live : List (Addr × HO)} {s : Shared} {σ : L2.St} {H : Hp} {m : List Addr} {h h1 : Hd} {a : Addr} {xs : List V} {ds ks : List D} {f : Value} {F : D → Hd → Res D} {E : Value → Shared → Prop} {Q : VK}
theorem Inv.unpin {pins' : List (Addr × Obj)} (I : Inv X pins' σ H s) (hp : pins ⊆ pins') : Inv X pins σ H s :=
  ⟨I.ok, I.os, I.bare, I.base, I.loc, I.cell, I.free, I.freeC, fun p z => I.pin p ((List.mem_append.mp z).elim (fun z => List.mem_append_left _ z) fun z => List.mem_append_right _ (hp z)), I.hok, I.len⟩
theorem sort_run (hK : X.K = g.K) (hu : X.A.units + 100 < cLine) (hf : KCall X g f pins0 live F) (hp : pins0 ⊆ pins) (I : Inv X pins σ H s) (hs : SqL X.K H a xs) (r : Rel g H m h) (lv : Live live H m) (q : DVs g.K H m xs ds) (ek : keysL F ds h = .ok ks h1) (so : SortsOk ks)
    (kw : List (Str × Value)) (ha1 : argsOk "sorted" ⟨[.ref a], kw⟩) (ha2 : ∀ x, argsOk "list.sort" ⟨[.ref x], kw⟩) (ht : ∀ x, Builtin.«list.sort» ⟨[.ref x], kw⟩ = ksk_tree x f false)
    (fin : ∀ H' m' p ys, Ext H m H' m' → Rel g H' m' h1 → H' p = none → DVs g.K H' m' ys (sortB (ds.zip ks)) → Q (.ref p) (upd H' p (.lst ys))) :
    wpAny (model X.prog X.w) X.A (call (.builtin "sorted") [.ref a] kw) (EP X pins σ Q) E s := by
  obtain ⟨its, rv, hl, hz⟩ := I.list hs
  have hlen := rv.length
  have hZ : its.length ≤ sizeLine := by rw [← hlen]; exact hz
  have hdl : ds.length = its.length := by rw [← hlen]; exact q.length.symm
  refine PySem.W.dlk_sorted (vs := its) hl.isList hZ ha1 ha2 ht fun E' kS e1 hh nka hkS kp nk na => ?_
  have I0 : Inv X pins σ H { s with heap := hh, toks := s.toks } := I.kept kp
  have nL : ∀ p, s.heap.objs.size ≤ p → p ≠ X.env.locals := fun p hp z => Nat.lt_irrefl _ (Nat.lt_of_lt_of_le I.lt (z ▸ hp))
  have nC : ∀ p, s.heap.objs.size ≤ p → ∀ x c, X.env.cells.lookup x = some c → c ≠ p := fun p hp x c e z => by
    obtain ⟨v, o, ho, _⟩ := I.cell x c e
    exact Nat.lt_irrefl _ (Nat.lt_of_lt_of_le (Heap.lt_size ho) (z ▸ hp))
  have nP : ∀ p, s.heap.objs.size ≤ p → ∀ z ∈ X.pn ++ pins, z.1 ≠ p := fun p hp z hz e => by
    exact Nat.lt_irrefl _ (Nat.lt_of_lt_of_le (Heap.lt_size (I.pin z hz).1) (e ▸ hp))
  have nX : ∀ p, s.heap.objs.size ≤ p → (p ∈ X.ex ∨ X.s_0.heap.objs.size ≤ p) := fun p hp => .inr (Nat.le_trans I.sz hp)
  have hA : s.heap.objs.size ≤ s.heap.objs.size + 1 := Nat.le_succ _
  let J : Nat → Array Value → Shared → Prop := fun i kv s' => kv.size = i ∧ (∃ e, s'.heap.get? kS = some (seqObj "list" kv e)) ∧ s'.heap.get? (s.heap.objs.size + 1) = some (seqObj "list" #[] e1) ∧
    ∃ H' m' h' acc rest xk, Inv X pins σ H' s' ∧ H' kS = none ∧ H' (s.heap.objs.size + 1) = none ∧ Ext H m H' m' ∧ Rel g H' m' h' ∧ Vals xk kv.toList ∧ DVs g.K H' m' xk acc ∧ keysL F (ds.drop i) h' = .ok rest h1 ∧ acc ++ rest = ks
  refine PySem.W.dlk_rest J (fun i kv s' hj => ⟨hj.1, hj.2.1⟩) hZ ⟨rfl, ⟨0, nk⟩, na, H, m, h, [], ks, [], I0, I.hok.fresh hkS, I.hok.fresh hA, .refl, r, .nil, .nil, ek, rfl⟩ ?turn ?done
  case turn =>
    rintro i v kv s' hv ⟨hsz, ⟨e, nk'⟩, na', H', m', h', acc, rest, xk, J', nH1, nH2, x', r', vk, dk, er, es⟩
    have hi : i < ds.length := by rw [hdl]; exact (List.getElem?_eq_some_iff.mp hv).1
    rw [List.drop_eq_getElem_cons hi] at er
    obtain ⟨k, h2, rest', e1', e2', rfl⟩ := keysL_cons er
    obtain ⟨y, hy, ry⟩ := vals_get' rv hv
    obtain ⟨d, hd, qd⟩ := q.get' hy
    rw [List.getElem?_eq_getElem hi] at hd
    cases hd
    have P' : Inv X ([(kS, seqObj "list" kv e), (s.heap.objs.size + 1, seqObj "list" #[] e1)] ++ pins) σ H' s' := by
      have nn : ∀ p, s.heap.objs.size ≤ p → p ∉ X.fs := fun p hp => I.nofs hp
      refine ⟨J'.ok, J'.os, J'.bare, J'.base, J'.loc, J'.cell, J'.free, J'.freeC, fun p z => ?_, J'.hok, J'.len⟩
      rcases List.mem_append.mp z with z | z
      · exact J'.pin p (List.mem_append_left _ z)
      · rcases List.mem_append.mp z with z | z
        · rcases List.mem_cons.mp z with rfl | z
          · exact ⟨nk', nH1, nL _ hkS, nn _ hkS, fun v z => nomatch z⟩
          · rw [List.mem_singleton.mp z]
            exact ⟨na', nH2, nL _ hA, nn _ hA, fun v z => nomatch z⟩
        · exact J'.pin p (List.mem_append_right _ z)
    refine wpAny_mono (hf _ s' σ H' m' h' y _ v k h2 (fun z hz => List.mem_append_right _ (hp hz)) P' ry r' (lv.ext x') (qd.stay (r.stay x')) e1') (fun u s'' he => ?_) fun _ _ z => z
    obtain ⟨vk2, H2, I2, rk2, m2, x2, r2, q2⟩ := he
    have p1 := I2.pin (kS, seqObj "list" kv e) (List.mem_append_right _ List.mem_cons_self)
    have p2 := I2.pin (s.heap.objs.size + 1, seqObj "list" #[] e1) (List.mem_append_right _ (List.mem_cons_of_mem _ List.mem_cons_self))
    have sb := Heap.SameBut.update s''.heap kS (Obj.mapSeq (·.push u))
    have I3 : Inv X pins σ H2 { s'' with heap := s''.heap.update kS (Obj.mapSeq (·.push u)), toks := s''.toks } :=
      (Inv.unpin I2 fun z hz => List.mem_append_right _ hz).turned (it := kS) (fun b o hb e => (sb.2 b hb).trans e) p1.2.1 (nL _ hkS).symm.symm (nX _ hkS) (nC _ hkS) (nP _ hkS)
    refine ⟨⟨e, p1.1⟩, by rw [Array.size_push, hsz], ⟨_, get?_update_seq p1.1 (·.push u)⟩, (sb.2 _ nka.symm).trans p2.1, H2, m2, h2, acc ++ [k], rest', xk ++ [vk2], I3, p1.2.1, p2.2.1, x'.trans x2, r2, ?_, (dk.stay (r'.stay x2)).append (.cons q2 .nil), e2', by rw [← es]; simp⟩
    rw [Array.toList_push]
    exact vk.append (.cons rk2 .nil)
  case done =>
    rintro kv s' ⟨hsz, ⟨e, nk'⟩, na', H', m', h', acc, rest, xk, J', nH1, nH2, x', r', vk, dk, er, es⟩
    rw [← hdl, List.drop_length] at er
    cases er
    rw [List.append_nil] at es
    subst es
    obtain ⟨G, g1, g2⟩ := L2.restrict s'.heap fun b => decide (b ≠ kS)
    have kl := keysL_len ek
    have hvl : kv.toList.length = acc.length := by rw [← vk.length, dk.length]
    have e2 : (ds.zip acc).map (fun p => p.2.py) = acc.map D.py := by
      have : (ds.zip acc).map (·.2) = acc := List.map_snd_zip (by omega)
      have z : (ds.zip acc).map (fun p => p.2.py) = ((ds.zip acc).map (·.2)).map D.py := by rw [List.map_map]; rfl
      rw [z, this]
    have kr : EachIs (fun v k => ∃ as, Reads s'.heap v k as) kv.toList (acc.map D.py) := each_of (by rw [List.length_map]; exact hvl) fun i v k e1 e2 => by
      rw [List.getElem?_map] at e2
      cases qk : acc[i]? with
      | none => rw [qk] at e2; cases e2
      | some k' =>
        rw [qk] at e2
        cases e2
        obtain ⟨x, hx, qx⟩ := dk.get qk
        obtain ⟨u, hu', ru⟩ := vk.get hx
        rw [e1] at hu'
        cases hu'
        exact DV.reads J' (by rw [hK]; exact qx) (pures_at so.pure (List.mem_of_getElem? qk)) ru
    refine PySem.W.keyH_end (κ := PySem.W.dataKind s'.heap (acc.map D.py)) (h₁ := G) (fun b o hb e => ?_) (g2 kS (decide_eq_false fun z => z rfl)) nk' na' nka (PySem.W.SortsAt.data (s := s') kr so.alike so.sorts fun d hd => ?_) hsz hZ fun h3 tk3 c k3 n3 => ⟨rfl, ?_⟩
    · by_cases z : b = kS
      · rw [z, g2 kS (decide_eq_false fun z => z rfl)] at e; cases e
      · rw [g1 b (decide_eq_true z)] at e; exact e
    · obtain ⟨k, hk, rfl⟩ := List.mem_map.mp hd
      have h1 := so.depth k hk
      have h2 : X.A.in1.in1.units = X.A.units + 2 := rfl
      have h3 : k.depth = k.py.depth := rfl
      omega
    · have hR : EachIs (fun v p => ∃ x, RelV x v ∧ DV g.K H' m' x (p : D × D).1) its (ds.zip acc) := each_of (by rw [List.length_zip]; omega) fun i v p e1 e2 => by
        rw [List.getElem?_zip_eq_some] at e2
        obtain ⟨y, hy, ry⟩ := vals_get' rv e1
        obtain ⟨d, hd, qd⟩ := q.get' hy
        rw [e2.1] at hd
        cases hd
        exact ⟨y, ry, qd.stay (r.stay x')⟩
      have eo := PySem.W.keyedOut_each (rev := false) (vs := its) (out := PySem.W.sortVals (PySem.W.dataKind s'.heap (acc.map D.py)) false kv.toList its) (bs := ds.zip acc) (fun p => p.2.py) ⟨s'.heap, kv.toList, by rw [e2]; exact so.alike, by rw [e2], by rw [e2]; exact kr⟩ hR
      obtain ⟨ys, hv, hd⟩ := each_dvs eo
      have kk : ∀ b o, b ≠ kS → b ≠ s.heap.objs.size + 1 → s'.heap.get? b = some o → h3.get? b = some o := fun b o n1 n2 e => k3 b o n2 (by rw [g1 b (decide_eq_true n1)]; exact e)
      have lz : ys.length ≤ sizeLine := by
        rw [hd.length]
        show (sortB (ds.zip acc)).length ≤ _
        unfold sortB
        rw [List.length_map, List.length_mergeSort, List.length_zip]
        omega
      refine ⟨.ref _, upd H' (s.heap.objs.size + 1) (.lst ys), J'.call (ch := [kS, s.heap.objs.size + 1]) (g' := s'.gens) (d' := s'.drawn) (t' := tk3) ⟨fun b o e n _ hx => ?_, fun b o e n _ hx => ?_, fun b o e n hx => ?_, fun b o e hx => ?_, fun b xs e => ?_, fun b o u e => ?_, fun b ps e => ?_⟩ ?_ J'.bare ?_, rfl, fin H' m' _ ys x' r' nH2 hd⟩
      · rw [List.mem_cons, List.mem_singleton, not_or] at hx
        exact kk b o hx.1 hx.2 e
      · rw [List.mem_cons, List.mem_singleton, not_or] at hx
        exact ⟨o.slots, kk b o hx.1 hx.2 e⟩
      · rw [List.mem_cons, List.mem_singleton, not_or] at hx
        rw [upd_ne hx.2]; exact n
      · rw [List.mem_cons, List.mem_singleton, not_or] at hx
        exact ⟨o, kk b o hx.1 hx.2 e⟩
      · rw [upd_ne (ne_of_none e nH2)]; exact e
      · rw [upd_ne (ne_of_none e nH2)]; exact e
      · exact ⟨#[], by rw [upd_ne (ne_of_none e nH2), e]; simp⟩
      · intro b u e
        by_cases hb : b = s.heap.objs.size + 1
        · rw [hb, upd_same] at e
          cases e
          rw [hb]
          exact ⟨lz, _, c, hv, n3⟩
        · rw [upd_ne hb] at e
          have nb : b ≠ kS := fun z => by rw [z, nH1] at e; cases e
          refine (J'.hok b u e).stay (fun d v hd' q' => ?_) (fun d q' => by rw [upd_ne (ne_of_none q' nH2)]; exact q') fun d xs q' => by rw [upd_ne (ne_of_none q' nH2)]; exact q'
          rcases hd' with z | z
          · rw [z] at q' ⊢; exact kk b v nb hb q'
          · exact kk d v (ne_of_none z nH1) (ne_of_none z nH2) q'
      · intro b hb
        rw [List.mem_cons, List.mem_singleton] at hb
        rcases hb with rfl | rfl
        · exact ⟨nX _ hkS, nL _ hkS, nC _ hkS, nP _ hkS⟩
        · exact ⟨nX _ hA, nL _ hA, nC _ hA, nP _ hA⟩
end
end DL

set_option Elab.async false
set_option linter.all false
set_option maxRecDepth 100000
namespace DL
open PySem PySem.Spec PyProof.Rows L2

inductive O2 where | add | sub | mul | div | mod | pow
  deriving DecidableEq
inductive C2 where | eq | ne | lt | le | gt | ge | is | isnot | isin | notin
  deriving DecidableEq
inductive B where | len | abs | int | max2 | min2 | tuple | list
  deriving DecidableEq
inductive Ty where | tup | str | int | bl | lst | non
  deriving DecidableEq
inductive M where | append
  deriving DecidableEq

def O2.op : O2 → Operator | .add => .Add | .sub => .Sub | .mul => .Mult | .div => .FloorDiv | .mod => .Mod | .pow => .Pow
def C2.op : C2 → CmpOp | .eq => .Eq | .ne => .NotEq | .lt => .Lt | .le => .LtE | .gt => .Gt | .ge => .GtE | .is => .Is | .isnot => .IsNot | .isin => .In | .notin => .NotIn
def semO : O2 → D → D → Hd → So | .add => semAdd | .sub => semSub | .mul => semMul | .div => semDiv | .mod => semMod | .pow => semPow
def semC : C2 → D → D → Hd → So
  | .eq => semEq false | .ne => semEq true | .lt => semCmpI fun i j => decide (i < j) | .le => semCmpI fun i j => decide (i ≤ j) | .gt => semCmpI fun i j => decide (j < i) | .ge => semCmpI fun i j => decide (j ≤ i)
  | .is => semIs false | .isnot => semIs true | .isin => semIn false | .notin => semIn true
theorem o_op2 {X : Cx} {g : Gd} (hK : X.K = g.K) : ∀ o : O2, OpR X (binaryOp o.op) (rD g (semO o))
  | .add => o_add hK | .sub => o_sub | .mul => o_mul | .div => o_div | .mod => o_mod | .pow => o_pow
theorem o_cmp2 {X : Cx} {g : Gd} (hK : X.K = g.K) (hu : X.A.units + 64 < cLine) : ∀ o : C2, OpR X (compareOp o.op) (rD g (semC o))
  | .eq => o_eq hK hu | .ne => o_ne hK hu | .lt => o_lt | .le => o_le | .gt => o_gt | .ge => o_ge | .is => o_is | .isnot => o_isnot | .isin => o_in hK hu | .notin => o_notin hK hu

def B.name : B → Str | .len => "len" | .abs => "abs" | .int => "int" | .max2 => "max" | .min2 => "min" | .tuple => "tuple" | .list => "list"
def B.val : B → Value | .len => .builtin "len" | .abs => .builtin "abs" | .int => .type "int" | .max2 => .builtin "max" | .min2 => .builtin "min" | .tuple => .type "tuple" | .list => .type "list"
def lenD (d : D) (h : Hd) : So := match d with
  | .str x => if x.length ≤ sizeLine then some (.int x.length, h) else none
  | d => (seqOf h d).map fun ds => (.int ds.length, h)
def absD (d : D) (h : Hd) : So := match d with | .int i => some (.int (if i < 0 then -i else i), h) | _ => none
def intD (d : D) (h : Hd) : So := match d with | .int i => some (.int i, h) | .bl k => some (.int (if k then 1 else 0), h) | _ => none
def max2D (d e : D) (h : Hd) : So := match d, e with | .int i, .int j => some (.int (if j > i then j else i), h) | _, _ => none
def min2D (d e : D) (h : Hd) : So := match d, e with | .int i, .int j => some (.int (if j < i then j else i), h) | _, _ => none
def tupleD (d : D) (h : Hd) : So := (seqOf h d).map fun ds => (.tup ds, h)
def listD (d : D) (h : Hd) : So := (seqOf h d).map fun ds => (.ref h.length, h ++ [.lst ds])
def on1 (f : D → Hd → So) : List D → Hd → So
  | [d], h => f d h
  | _, _ => none
def on2 (f : D → D → Hd → So) : List D → Hd → So
  | [d, e], h => f d e h
  | _, _ => none
def semB : B → List D → Hd → So
  | .len => on1 lenD | .abs => on1 absD | .int => on1 intD | .max2 => on2 max2D | .min2 => on2 min2D | .tuple => on1 tupleD | .list => on1 listD
theorem call_or {X : Cx} {f : Value} {r r' : List V → Hp → VK → Prop} (h : CallR X f r) (w : ∀ xs H Q, r' xs H Q → r xs H Q) : CallR X f r' := fun pins s σ H xs us Q I rx q => h pins s σ H xs us Q I rx (w _ _ _ q)
theorem DVs.one {K : PySem.W.Frag} {H : Hp} {m : List Addr} {xs : List V} {d : D} (r : DVs K H m xs [d]) : ∃ x, xs = [x] ∧ DV K H m x d := by
  cases r with
  | cons a b => cases b; exact ⟨_, rfl, a⟩
theorem DVs.two {K : PySem.W.Frag} {H : Hp} {m : List Addr} {xs : List V} {d e : D} (r : DVs K H m xs [d, e]) : ∃ x y, xs = [x, y] ∧ DV K H m x d ∧ DV K H m y e := by
  cases r with
  | cons a b =>
    obtain ⟨y, rfl, q⟩ := b.one
    exact ⟨_, _, rfl, a, q⟩
section
variable {X : Cx} {g : Gd}
theorem on1_ok {f : D → Hd → So} {F : Value} {r : List V → Hp → VK → Prop} (hc : CallR X F r)
    (w : ∀ v d H m h Q, Rel g H m h → DV g.K H m v d → PO g H m Q (f d h) → r [v] H Q) : CallR X F (rC g (on1 f)) := by
  refine call_or hc fun xs H Q ⟨m, h, ds, r, qs, p⟩ => ?_
  match ds, p, qs with
  | [], p, _ => exact p.elim
  | _ :: _ :: _, p, _ => exact p.elim
  | [d], p, qs =>
    obtain ⟨v, rfl, q⟩ := qs.one
    exact w v d H m h Q r q p
theorem on2_ok {f : D → D → Hd → So} {F : Value} {r : List V → Hp → VK → Prop} (hc : CallR X F r)
    (w : ∀ v v' d d' H m h Q, Rel g H m h → DV g.K H m v d → DV g.K H m v' d' → PO g H m Q (f d d' h) → r [v, v'] H Q) : CallR X F (rC g (on2 f)) := by
  refine call_or hc fun xs H Q ⟨m, h, ds, r, qs, p⟩ => ?_
  match ds, p, qs with
  | [], p, _ => exact p.elim
  | [_], p, _ => exact p.elim
  | _ :: _ :: _ :: _, p, _ => exact p.elim
  | [d, d'], p, qs =>
    obtain ⟨v, v', rfl, q, q'⟩ := qs.two
    exact w v v' d d' H m h Q r q q' p
theorem b_len (hK : X.K = g.K) : CallR X (.builtin "len") (rC g (semB .len)) := on1_ok call_len fun v d H m h Q r q p => by
  have hh : ∀ {d : D} {v : V}, DV g.K H m v d → PO g H m Q ((seqOf h d).map fun ds => (.int ds.length, h)) → ∃ x n, [v] = [x] ∧ LenV X.K x H n ∧ Q (.int n) H := fun {d v} q p => by
    cases e : seqOf h d with
    | none => rw [e] at p; exact p.elim
    | some ds =>
      rw [e] at p
      obtain ⟨a, xs, rfl, hs, hd⟩ := seqOf_sq r q e
      rcases hs with hs | hs
      · exact ⟨_, _, rfl, .inl ⟨_, hK ▸ hs, rfl⟩, p.here r (by rw [hd.length]; exact .int _)⟩
      · exact ⟨_, _, rfl, .inr ⟨_, hK ▸ hs, rfl⟩, p.here r (by rw [hd.length]; exact .int _)⟩
  cases d with
  | str x =>
    simp only [lenD] at p
    split at p
    · cases q; exact ⟨_, _, rfl, ⟨by assumption, rfl⟩, p.here r (.int _)⟩
    · exact p.elim
  | _ => exact hh q p
theorem b_abs : CallR X (.builtin "abs") (rC g (semB .abs)) := on1_ok call_abs fun v d H m h Q r q p => by
  cases q with
  | int i => exact ⟨_, rfl, p.here r (.int _)⟩
  | _ => exact p.elim
theorem b_int : CallR X (.type "int") (rC g (semB .int)) := on1_ok call_int1 fun v d H m h Q r q p => by
  cases q with
  | int i => exact .inl ⟨_, rfl, p.here r (.int _)⟩
  | bl b => exact .inr ⟨_, rfl, p.here r (.int _)⟩
  | _ => exact p.elim
theorem b_max2 (hc : X.calm = true) : CallR X (.builtin "max") (rC g (semB .max2)) := on2_ok (call_max2 hc) fun v v' d d' H m h Q r q q' p => by
  cases q with
  | int i => cases q' with
    | int j => exact ⟨_, _, rfl, p.here r (.int _)⟩
    | _ => exact p.elim
  | _ => exact p.elim
theorem b_min2 (hc : X.calm = true) : CallR X (.builtin "min") (rC g (semB .min2)) := on2_ok (call_min2 hc) fun v v' d d' H m h Q r q q' p => by
  cases q with
  | int i => cases q' with
    | int j => exact ⟨_, _, rfl, p.here r (.int _)⟩
    | _ => exact p.elim
  | _ => exact p.elim
theorem b_tuple (hK : X.K = g.K) : CallR X (.type "tuple") (rC g (semB .tuple)) := on1_ok call_tuple_of fun v d H m h Q r q p => by
  unfold tupleD at p
  cases e : seqOf h d with
  | none => rw [e] at p; exact p.elim
  | some ds =>
    rw [e] at p
    obtain ⟨a, xs, rfl, hs, hd⟩ := seqOf_sq r q e
    rcases hs with hs | hs
    · exact ⟨_, xs, rfl, .inl ⟨hK ▸ hs, fun l hl => p.newTup r hl hd⟩⟩
    · exact ⟨_, xs, rfl, .inr ⟨hK ▸ hs, p.here r (.tup hs hd)⟩⟩
theorem b_list (hK : X.K = g.K) : CallR X (.type "list") (rC g (semB .list)) := on1_ok call_list_of fun v d H m h Q r q p => by
  unfold listD at p
  cases e : seqOf h d with
  | none => rw [e] at p; exact p.elim
  | some ds =>
    rw [e] at p
    obtain ⟨a, xs, rfl, hs, hd⟩ := seqOf_sq r q e
    exact ⟨_, xs, rfl, hK ▸ hs, fun l hl => p.newLst r hl hd⟩
theorem b_all (hK : X.K = g.K) (hc : X.calm = true) : ∀ b : B, CallR X b.val (rC g (semB b))
  | .len => b_len hK | .abs => b_abs | .int => b_int | .max2 => b_max2 hc | .min2 => b_min2 hc | .tuple => b_tuple hK | .list => b_list hK
end
theorem B.boot : ∀ b : B, bootBuiltins b.name = some b.val
  | .len => by decide +kernel | .abs => by decide +kernel | .int => by decide +kernel | .max2 => by decide +kernel | .min2 => by decide +kernel | .tuple => by decide +kernel | .list => by decide +kernel
theorem B.noname : ∀ b : B, b.name ≠ ("__name__" : Str) := by intro b; cases b <;> decide +kernel
theorem B.nodebug : ∀ b : B, (b.name == ("__debug__" : Str)) = false := by intro b; cases b <;> decide +kernel

def Ty.nm : Ty → String | .tup => "tuple" | .str => "str" | .int => "int" | .bl => "bool" | .lst => "list" | .non => "NoneType"
def Ty.name (t : Ty) : Str := Str.ofString t.nm
def tyD (h : Hd) : D → Option Ty
  | .non => some .non | .bl _ => some .bl | .int _ => some .int | .str _ => some .str | .tup _ => some .tup | .rol _ => some .lst
  | .ref n => match h[n]? with | some (.lst _) => some .lst | _ => none
  | .glo _ => none
def isT (t u : Ty) : Bool := decide (t = u) || (decide (t = .bl) && decide (u = .int))
theorem kit_isT : ∀ t u : Ty, u ≠ .non → kitB t.nm u.nm = some (isT t u) := by
  intro t u hu
  cases u <;> first | exact absurd rfl hu | (cases t <;> decide +kernel)
theorem tyD_x {g : Gd} {H : Hp} {m : List Addr} {h : Hd} {v : V} {d : D} {t : Ty} (r : Rel g H m h) (q : DV g.K H m v d) (e : tyD h d = some t) : TyX g.K H v (.type t.nm) := by
  cases q with
  | non => cases e; exact .base .non
  | bl b => cases e; exact .base (.bl _)
  | int i => cases e; exact .base (.int _)
  | str x => cases e; exact .base (.str _)
  | tup a b =>
    cases e
    rcases a with (a | ⟨o, a⟩) | ⟨o, its, n, k, c, _⟩
    · exact .base (.tup a)
    · exact .fTuple a
    · exact .kTuple k c
  | rol a b =>
    cases e
    rcases a with ⟨o, a⟩ | ⟨o, its, n, k, c, _⟩
    · exact .base (.frz a)
    · exact .kList k c
  | ref a =>
    simp only [tyD] at e
    split at e
    · cases e
      obtain ⟨xs, x1, _⟩ := r.lst a (by assumption)
      exact .base (.lst x1)
    · cases e
  | glo => cases e

def M.name : M → Str | .append => "append"
def appendD (o d : D) (h : Hd) : So := match o with
  | .ref n => match h[n]? with
    | some (.lst ds) => if ds.length < sizeLine then some (.non, h.set n (.lst (ds ++ [d]))) else none
    | _ => none
  | _ => none
def semM : M → D → List D → Hd → So
  | .append, o, [d], h => appendD o d h
  | _, _, _, _ => none
end DL

set_option Elab.async false
set_option linter.all false
set_option maxRecDepth 100000
namespace DL
open PySem PySem.Spec PyProof.Rows L2

inductive ITg where
  | name (i : Nat) | tup (is : List Nat)
mutual
inductive IE where
  | var (i : Nat) | int (i : Int) | str (x : Str) | bl (b : Bool) | non
  | op2 (o : O2) (a b : IE) | cmp (o : C2) (a b : IE) | neg (a : IE) | nt (a : IE)
  | and (es : IEs) | or (es : IEs) | ife (c a b : IE)
  | tup (es : IEs) | lst (es : IEs) | ix (a i : IE) | sl (a : IE) (lo hi : IO)
  | bc (b : B) (es : IEs) | isi (a : IE) (t : Ty) | call (f : Nat) (es : IEs)
  | mth (m : M) (o : IE) (es : IEs)
  | comp (t : ITg) (vs : List Nat) (it : IIt) (c : IO) (e : IE)
  | sortk (e : IE) (f : Nat) | sortl (e b : IE)
inductive IIt where
  | seq (e : IE) | rng1 (e : IE) | rng2 (a b : IE) | enum (e : IE)
inductive IEs where
  | nil | cons (e : IE) (es : IEs)
inductive IO where
  | no | yes (e : IE)
end

abbrev Fn := List D → Hd → Res D
abbrev Tab := Nat → Fn
abbrev Fo := Sd → Hd → Res (Option Int)
def truR (r : Res D) : Res Bool := r.bind fun d h => match truD d h with | some k => .ok k h | none => .bad
def bolR (r : Res D) : Res Bool := r.bind fun d h => match d with | .bl k => .ok k h | _ => .bad
def evL : List (Fe × Ft) → Fes
  | [] => fun _ h => .ok [] h
  | p :: ps => fun τ h => (p.1 τ h).bind fun d h1 => (evL ps τ h1).bind fun ds h2 => .ok (d :: ds) h2
def andV : List (Fe × Ft) → Fe
  | [] => fun _ _ => .bad
  | [p] => p.1
  | p :: q :: r => fun τ h => (p.1 τ h).bind fun d h1 => match d with | .bl true => andV (q :: r) τ h1 | .bl false => .ok (.bl false) h1 | _ => .bad
def orV : List (Fe × Ft) → Fe
  | [] => fun _ _ => .bad
  | [p] => p.1
  | p :: q :: r => fun τ h => (p.1 τ h).bind fun d h1 => match d with | .bl false => orV (q :: r) τ h1 | .bl true => .ok (.bl true) h1 | _ => .bad
def andT : List (Fe × Ft) → Ft
  | [] => fun _ _ => .bad
  | [p] => p.2
  | p :: q :: r => fun τ h => (p.2 τ h).bind fun c h1 => if c = true then andT (q :: r) τ h1 else .ok false h1
def orT : List (Fe × Ft) → Ft
  | [] => fun _ _ => .bad
  | [p] => p.2
  | p :: q :: r => fun τ h => (p.2 τ h).bind fun c h1 => if c = true then .ok true h1 else orT (q :: r) τ h1
def mkV (f : Fe) : Fe × Ft := (f, fun τ h => truR (f τ h))
def mkC (f : Fe) : Fe × Ft := (f, fun τ h => bolR (f τ h))
def isLst (h : Hd) : D → Bool
  | .ref n => match h[n]? with | some (.lst _) => true | _ => false
  | _ => false
/-- what is walked: the items, the lists that must stay as they are -/
structure ItD where
  items : List D
  srcs : List (Nat × List D)
def ItD.guard (I : ItD) (h : Hd) : Prop := ∀ p ∈ I.srcs, h[p.1]? = some (.lst p.2)
def setNs : List Nat → List D → Sd → Sd
  | i :: is, d :: ds, τ => setNs is ds (τ.set i (some d))
  | _, _, τ => τ
def setTg : ITg → D → Sd → Option Sd
  | .name i, d, τ => some (τ.set i (some d))
  | .tup is, .tup ds, τ => if ds.length = is.length then some (setNs is ds τ) else none
  | .tup _, _, _ => none
def wipeD (τ : Sd) : List Nat → Sd
  | [] => τ
  | v :: vs => (wipeD τ vs).set v none
def noEx {α : Type} : Res α → Res α
  | .ex _ _ => .bad
  | r => r
def testO : Option Ft → Ft
  | none => fun _ h => .ok true h
  | some f => f
open Classical in
noncomputable def compL (I : ItD) (t : ITg) (c : Option Ft) (e : Fe) (τ : Sd) : List D → Hd → Res (List D)
  | [], h => if I.guard h then .ok [] h else .bad
  | d :: r, h => if I.guard h then
      match setTg t d τ with
      | none => .bad
      | some τ1 => (testO c τ1 h).bind fun k h1 =>
        if k = true then (e τ1 h1).bind fun x h2 => (compL I t c e τ r h2).bind fun xs h3 => .ok (x :: xs) h3 else compL I t c e τ r h1
    else .bad
def itSeq (d : D) (h : Hd) : Option ItD := match d with
  | .tup ds => some ⟨ds, []⟩
  | .rol ds => some ⟨ds, []⟩
  | .ref n => match h[n]? with | some (.lst ds) => some ⟨ds, [(n, ds)]⟩ | _ => none
  | _ => none
@[irreducible] def itRng (lo hi : Int) : Option ItD := if -(2 ^ 62) ≤ lo ∧ lo < 2 ^ 62 ∧ -(2 ^ 62) ≤ hi ∧ hi < 2 ^ 62 then some ⟨(List.range (hi - lo).toNat).map fun (i : Nat) => .int (lo + (i : Int)), []⟩ else none
def enumD : Nat → List D → List D
  | _, [] => []
  | i, d :: ds => .tup [.int (i : Nat), d] :: enumD (i + 1) ds
def itEnum (d : D) (h : Hd) : Option ItD := (itSeq d h).map fun I => ⟨enumD 0 I.items, I.srcs⟩
def ofI (o : Option ItD) (h : Hd) : Res ItD := match o with | some I => .ok I h | none => .bad
/-- a list's items -/
def lstOf (h : Hd) : D → Option (List D)
  | .rol ds => some ds
  | .ref n => match h[n]? with | some (.lst ds) => some ds | _ => none
  | _ => none
open Classical in
noncomputable def sortR (F : D → Hd → Res D) (x : D) (h : Hd) : Res D := match lstOf h x with
  | none => .bad
  | some ds => (noEx (keysL F ds h)).bind fun ks h1 => if SortsOk ks then .ok (.ref h1.length) (h1 ++ [.lst (sortB (ds.zip ks))]) else .bad
mutual
noncomputable def evP (C : Tab) : IE → Fe × Ft
  | .var i => mkV fun τ h => match τ[i]? with | some (some d) => .ok d h | _ => .bad
  | .int i => mkV fun _ h => .ok (.int i) h
  | .str x => mkV fun _ h => .ok (.str x) h
  | .bl b => mkV fun _ h => .ok (.bl b) h
  | .non => mkV fun _ h => .ok .non h
  | .op2 o a b => mkV fun τ h => ((evP C a).1 τ h).bind fun x h1 => ((evP C b).1 τ h1).bind fun y h2 => ofO (semO o x y h2)
  | .cmp o a b => mkC fun τ h => ((evP C a).1 τ h).bind fun x h1 => ((evP C b).1 τ h1).bind fun y h2 => ofO (semC o x y h2)
  | .neg a => mkV fun τ h => ((evP C a).1 τ h).bind fun x h1 => ofO (semNeg x h1)
  | .nt a => (fun τ h => (bolR ((evP C a).1 τ h)).bind fun c h1 => .ok (.bl !c) h1, fun τ h => ((evP C a).2 τ h).bind fun c h1 => .ok (!c) h1)
  | .and es => (andV (evPs C es), andT (evPs C es))
  | .or es => (orV (evPs C es), orT (evPs C es))
  | .ife c a b => (fun τ h => ((evP C c).2 τ h).bind fun k h1 => if k = true then (evP C a).1 τ h1 else (evP C b).1 τ h1, fun _ _ => .bad)
  | .tup es => mkV fun τ h => (evL (evPs C es) τ h).bind fun ds h1 => if ds.length ≤ sizeLine then .ok (.tup ds) h1 else .bad
  | .lst es => mkV fun τ h => (evL (evPs C es) τ h).bind fun ds h1 => if ds.length ≤ sizeLine then .ok (.ref h1.length) (h1 ++ [.lst ds]) else .bad
  | .ix a i => mkV fun τ h => ((evP C a).1 τ h).bind fun x h1 => ((evP C i).1 τ h1).bind fun y h2 => ofO (semIx x y h2)
  | .sl a lo hi => mkV fun τ h => ((evP C a).1 τ h).bind fun x h1 => (evO C lo τ h1).bind fun l h2 => (evO C hi τ h2).bind fun u h3 => ofO (semSl x l u h3)
  | .bc b es => mkV fun τ h => (evL (evPs C es) τ h).bind fun ds h1 => ofO (semB b ds h1)
  | .isi a t => mkV fun τ h => ((evP C a).1 τ h).bind fun x h1 => match tyD h1 x with | some u => .ok (.bl (isT u t)) h1 | none => .bad
  | .call f es => mkV fun τ h => (evL (evPs C es) τ h).bind fun ds h1 => C f ds h1
  | .mth m o es => mkV fun τ h => ((evP C o).1 τ h).bind fun x h1 => if isLst h1 x = true then (evL (evPs C es) τ h1).bind fun ds h2 => ofO (semM m x ds h2) else .bad
  | .comp t vs it c e => mkV fun τ h => (evI C it τ h).bind fun I h1 => (noEx (compL I t (evC C c) (evP C e).1 (wipeD τ vs) I.items h1)).bind fun ds h2 => if ds.length ≤ sizeLine then .ok (.ref h2.length) (h2 ++ [.lst ds]) else .bad
  | .sortk e f => mkV fun τ h => ((evP C e).1 τ h).bind fun x h1 => sortR (fun d h => C f [d] h) x h1
  | .sortl e b => mkV fun τ h => ((evP C e).1 τ h).bind fun x h1 => sortR (fun d h => (evP C b).1 [some d] h) x h1
noncomputable def evI (C : Tab) : IIt → Sd → Hd → Res ItD
  | .seq e => fun τ h => ((evP C e).1 τ h).bind fun d h1 => ofI (itSeq d h1) h1
  | .rng1 e => fun τ h => ((evP C e).1 τ h).bind fun d h1 => match d with | .int j => ofI (itRng 0 j) h1 | _ => .bad
  | .rng2 a b => fun τ h => ((evP C a).1 τ h).bind fun d h1 => ((evP C b).1 τ h1).bind fun e h2 => match d, e with | .int i, .int j => ofI (itRng i j) h2 | _, _ => .bad
  | .enum e => fun τ h => ((evP C e).1 τ h).bind fun d h1 => ofI (itEnum d h1) h1
noncomputable def evC (C : Tab) : IO → Option Ft
  | .no => none
  | .yes e => some (evP C e).2
noncomputable def evPs (C : Tab) : IEs → List (Fe × Ft)
  | .nil => []
  | .cons e es => evP C e :: evPs C es
noncomputable def evO (C : Tab) : IO → Fo
  | .no => fun _ h => .ok none h
  | .yes e => fun τ h => ((evP C e).1 τ h).bind fun d h1 => match d with | .int i => .ok (some i) h1 | _ => .bad
end
noncomputable abbrev evE (C : Tab) (e : IE) : Fe := (evP C e).1
noncomputable abbrev evT (C : Tab) (e : IE) : Ft := (evP C e).2

structure Ck where
  N : List Str
  sc : Scope
  cells : List Str
  free : List Str
  fns : List (Nat × (Str × Nat))
  lam : Bool := false
def notStar : Expr → Bool | .Starred _ _ => false | _ => true
def plainBase : Expr → Bool | .Call _ _ _ _ => false | _ => true
def plainTruth : Expr → Bool | .UnaryOp .Not _ _ => false | .BoolOp _ _ _ => false | .IfExp _ _ _ _ => false | .Compare _ _ _ _ => false | _ => true
def notSlice : Expr → Bool | .Slice _ _ _ _ => false | _ => true
def notSet : Expr → Bool | .Set _ _ _ => false | _ => true
def visB (sc : Scope) (x : Str) : Bool := match sc.names.lookup x with | some .local => true | some .cell => true | some .free => true | _ => false
def glB (sc : Scope) (x : Str) : Bool := match sc.names.lookup x with | some .globalImplicit => true | _ => false
def seqB (x y : Str) : Bool := decide (x = y)
def dbgB (x : Str) : Bool := !(x == ("__debug__" : Str)) && !(x == ("__classdict__" : Str)) && !(x == ("__name__" : Str))
def relSN (scope sc : Scope) : Scope := { scope with names := scope.names.map fun (n, k) => if (k == .free && sc.kind == .function && sc.names.lookup n == some .cell) then (n, .cell) else (n, k) }
/-- a lambda of one plain parameter -/
def lamPar : Arguments → Option Str
  | ⟨[], [⟨a, none, _⟩], none, [], [], none, []⟩ => some a
  | _ => none
/-- a def's scope, looked at -/
def fnScB (N P : List Str) (sc : Scope) : Bool := decide (sc.kind = .function) && !sc.isCoroutine && !sc.isGenerator && decide N.Nodup && decide (N.take P.length = P) && P.all (fun x => decide (sc.names.lookup x = some .local) || decide (sc.names.lookup x = some .cell)) && sc.names.all fun y => !decide (y.2 = .free)
theorem fnScB_ok {N P : List Str} {sc : Scope} (h : fnScB N P sc = true) : FnScope N P sc := by
  unfold fnScB at h
  simp only [Bool.and_eq_true, Bool.or_eq_true, Bool.not_eq_true', decide_eq_true_eq, decide_eq_false_iff_not, List.all_eq_true] at h
  obtain ⟨⟨⟨⟨⟨⟨h1, h2⟩, h3⟩, h4⟩, h5⟩, h6⟩, h7⟩ := h
  exact ⟨h1, h2, h3, h4, h5, fun x hx => h6 x hx, h7⟩
def Ck.lamC (c : Ck) (a : Str) (scope : Scope) : Ck := ⟨[a], scope, [], c.free, [], false⟩
def Ck.blk (c : Ck) (scope : Scope) : Ck := { c with lam := false, sc := relSN scope c.sc, cells := scope.names.filterMap fun (n, k) => if k == .cell then some n else none }
def locB (c : Ck) (x : Str) : Bool := match c.sc.names.lookup x with | some .local => true | some .cell => c.cells.contains x | _ => false
def mNm (c : Ck) (i : Nat) : Expr → Bool
  | .Name x _ => decide (c.N[i]? = some x) && locB c x
  | _ => false
def mNms (c : Ck) : List Nat → List Expr → Bool
  | [], [] => true
  | i :: is, e :: es => mNm c i e && mNms c is es
  | _, _ => false
def mTg (c : Ck) : ITg → Expr → Bool
  | .name i, e => mNm c i e
  | .tup is, .Tuple es _ _ => mNms c is es
  | .tup _, _ => false
def tgIn : ITg → List Nat → Bool
  | .name i, vs => vs.contains i
  | .tup is, vs => is.all fun i => vs.contains i
/-- a comprehension's block: its own names with their places -/
def ownOf (N : List Str) (vs : List Nat) : List (Str × Nat) := vs.filterMap fun i => N[i]?.map fun x => (x, i)
def mComp (c : Ck) (t : ITg) (vs : List Nat) (tg : Expr) (scope : Scope) : Bool := blkC c.N c.sc scope (ownOf c.N vs) && decide ((ownOf c.N vs).map (·.2) = vs) && mTg (c.blk scope) t tg
mutual
def mE (c : Ck) : IE → Expr → Bool
  | .var i => fun e => match e with | .Name x _ => decide (c.N[i]? = some x) && visB c.sc x && dbgB x | _ => false
  | .int i => fun e => match e with | .Constant (.int j) _ _ => decide (i = j) | _ => false
  | .str x => fun e => match e with | .Constant (.str y) _ _ => seqB x y | _ => false
  | .bl b => fun e => match e with | .Constant (.bool d) _ _ => b == d | _ => false
  | .non => fun e => match e with | .Constant .none _ _ => true | _ => false
  | .op2 o a b => fun e => match e with | .BinOp ea eo eb _ => decide (o.op = eo) && mE c a ea && mE c b eb | _ => false
  | .cmp o a b => fun e => match e with | .Compare ea [eo] [eb] _ => decide (o.op = eo) && mE c a ea && mE c b eb && notSet eb | _ => false
  | .neg a => fun e => match e with | .UnaryOp .USub ea _ => mE c a ea | _ => false
  | .nt a => fun e => match e with | .UnaryOp .Not ea _ => mE c a ea | _ => false
  | .and es => fun e => match e with | .BoolOp .And ees _ => mEs c es ees | _ => false
  | .or es => fun e => match e with | .BoolOp .Or ees _ => mEs c es ees | _ => false
  | .ife t a b => fun e => match e with | .IfExp et ea eb _ => mE c t et && mE c a ea && mE c b eb | _ => false
  | .tup es => fun e => match e with | .Tuple ees _ _ => mEs c es ees | _ => false
  | .lst es => fun e => match e with | .List ees _ => mEs c es ees | _ => false
  | .ix a i => fun e => match e with | .Subscript ea ei _ => mE c a ea && mE c i ei && notSlice ei | _ => false
  | .sl a lo hi => fun e => match e with | .Subscript ea (.Slice l u none _) _ => mE c a ea && mO c lo l && mO c hi u | _ => false
  | .bc b es => fun e => match e with | .Call (.Name x _) (ee :: ees) [] _ => seqB b.name x && glB c.sc x && c.free.contains x && mEs c es (ee :: ees) | _ => false
  | .isi a t => fun e => match e with | .Call (.Name x _) [ea, .Name y _] [] _ => seqB "isinstance" x && glB c.sc x && c.free.contains x && seqB t.name y && glB c.sc y && c.free.contains y && decide (t ≠ .non) && mE c a ea && notStar ea | _ => false
  | .call f es => fun e => match e with
    | .Call (.Name x _) (ee :: ees) [] _ => (match c.fns.lookup f with | some (y, n) => seqB x y && decide (n = ees.length + 1) | none => false) && glB c.sc x && dbgB x && mEs c es (ee :: ees)
    | _ => false
  | .mth .append o es => fun e => match e with | .Call (.Attribute eo x ap) [ee] [] cp => seqB "append" x && plainBase eo && decide (ap.endLine = cp.line) && mE c o eo && mEs c es [ee] | _ => false
  | .comp t vs it co e => fun x => match x with
    | .ListComp elt [⟨tg, iter, ifs, 0⟩] scope _ => mI c it tg iter && decide (tgIn t vs = true) && mComp c t vs tg scope && mCs (c.blk scope) co ifs && mE (c.blk scope) e elt
    | _ => false
  | .sortk e f => fun x => match x with
    | .Call (.Name y _) [ea] [⟨some kx, .Name z _, _⟩] _ => seqB "sorted" y && glB c.sc y && c.free.contains y && seqB "key" kx && (match c.fns.lookup f with | some (q, n) => seqB z q && decide (n = 1) | none => false) && glB c.sc z && dbgB z && mE c e ea && notStar ea
    | _ => false
  | .sortl e b => fun x => match x with
    | .Call (.Name y _) [ea] [⟨some kx, .Lambda params body scope _, _⟩] _ => seqB "sorted" y && glB c.sc y && c.free.contains y && seqB "key" kx && c.lam && mE c e ea && notStar ea && (match lamPar params with | some a => fnScB [a] [a] scope && mE (c.lamC a scope) b body | none => false)
    | _ => false
def mI (c : Ck) : IIt → Expr → Expr → Bool
  | .seq e => fun _ x => notSet x && mE c e x
  | .rng1 e => fun _ x => match x with | .Call (.Name y _) [a] [] _ => seqB "range" y && glB c.sc y && c.free.contains y && mE c e a && notStar a | _ => false
  | .rng2 e f => fun _ x => match x with | .Call (.Name y _) [a, b] [] _ => seqB "range" y && glB c.sc y && c.free.contains y && (mE c e a && notStar a) && (mE c f b && notStar b) | _ => false
  | .enum e => fun tg x => (match tg with | .Tuple _ _ _ => true | _ => false) && (match x with | .Call (.Name y _) [a] [] _ => seqB "enumerate" y && glB c.sc y && c.free.contains y && mE c e a && notStar a | _ => false)
def mCs (c : Ck) : IO → List Expr → Bool
  | .no => fun l => match l with | [] => true | _ => false
  | .yes e => fun l => match l with | [x] => mE c e x | _ => false
def mEs (c : Ck) : IEs → List Expr → Bool
  | .nil => fun es => match es with | [] => true | _ => false
  | .cons e es => fun l => match l with | ee :: ees => mE c e ee && notStar ee && mEs c es ees | _ => false
def mO (c : Ck) : IO → Option Expr → Bool
  | .no => fun o => match o with | none => true | _ => false
  | .yes e => fun o => match o with | some ee => mE c e ee | _ => false
end
end DL

set_option Elab.async false
set_option linter.all false
set_option maxRecDepth 100000
namespace DL
open PySem PySem.Spec PyProof.Rows L2

/-- a def's promise by its meaning -/
def PF (g : Gd) (H : Hp) (m : List Addr) (Q : VK) (E : XK) : Res D → Prop
  | .ok d h' => ∀ v H' m', Ext H m H' m' → Rel g H' m' h' → DV g.K H' m' v d → Q v H'
  | .ex x h' => ∀ c d H' m', Ext H m H' m' → Rel g H' m' h' → EV g H' m' x c d → E c d H'
  | .bad => False
def spF (g : Gd) (n : Nat) (F : Fn) : Sp := fun vs H Q E => ∃ m h ds, Rel g H m h ∧ DVs g.K H m vs ds ∧ ds.length = n ∧ PF g H m Q E (F ds h)
structure FnD (P : Program) (w : World) (K : PySem.W.Frag) (mg : Str → Option Value) (base : Heap) (k : Nat) (g : Gd) (x : Str) (n : Nat) (F : Fn) : Prop where
  len : ∀ ds h, ds.length ≠ n → F ds h = .bad
  ex : ∃ f fd ps, mg x = some (.ref f) ∧ PySem.W.keepIn K (.ref f) = true ∧ Binds K fd ps [] ∧ ps.length = n ∧ FnOk P w K mg base (L2.CX P w) k f fd ps (spF g n F)

/-- what a def that makes a lambda must have: its code object, that object's table -/
def LamOk (g : Gd) (base : Heap) (mg : Str → Option Value) (code : Value) (qual : Str) (k : Nat) : Prop :=
  1 ≤ k ∧ ∃ cc P, code = .ref cc ∧ LamX.TabB base mg cc P ∧ (P, qual ++ "<lambda>") ∈ g.T ∧ ∀ p ∈ g.T, p.1 = P → p.2 = qual ++ "<lambda>"
structure XOk (X : Cx) (c : Ck) (g : Gd) (C : Tab) (W : WX) (k : Nat) : Prop where
  N : X.N = c.N
  nd : X.N.Nodup
  sc : X.env.scope.names = c.sc.names
  kind : X.env.scope.kind = .function
  ckind : c.sc.kind = .function
  K : X.K = g.K
  calm : X.calm = true
  cells : ∀ x, c.cells.contains x = true → X.fn x = true
  free : ∀ x, c.free.contains x = true → X.mg x = none
  fns : ∀ f x n, c.fns.lookup f = some (x, n) → FnD X.prog X.w X.K X.mg X.base k g x n (C f)
  room : Room (k + 3) X.A
  lam : c.lam = true → LamOk g X.base X.mg X.env.code X.env.qual k
  takes : Takes X W
  own : PassesOwn (model X.prog X.w) X.A X.env X.xe

section
variable {g : Gd} {W : WX} {σ : L2.St} {H : Hp} {m : List Addr} {τ : Sd} {h : Hd}
theorem star_of {e : Expr} {es : List Expr} {env : Env} (n : notStar e = true) : starEach (e :: es) env = (false, eval e env) :: starEach es env := by
  cases e <;> first | rfl | cases n
theorem any_back {pos : Pos} {env : Env} : ∀ {es : List Expr}, (∀ e ∈ es, notStar e = true) → (backTo pos (starEach es env)).any (·.1) = false
  | [], _ => rfl
  | e :: es, n => by
    rw [star_of (n e List.mem_cons_self)]
    show (false || (backTo pos (starEach es env)).any (·.1)) = false
    rw [any_back fun x hx => n x (List.mem_cons_of_mem _ hx)]
    rfl
theorem base_of {e : Expr} {f : Str} {env : Env} {whole : Sem Value} (n : plainBase e = true) : attributeBase e f env whole = whole := by
  cases e <;> first | rfl | cases n
theorem behind_of {op : CmpOp} {e : Expr} (n : notSet e = true) : behindInMarks op e = false := by
  cases e <;> first | rfl | cases n
theorem ix_of {e : Expr} (n : notSlice e = true) : PlainIx e := by
  intro o i
  cases e <;> first | rfl | cases n
theorem vis_of {sc sc' : Scope} {x : Str} (e : sc'.names = sc.names) (n : visB sc x = true) : Vis sc' x := by
  unfold visB at n
  rw [← e] at n
  split at n
  · exact .inl (by assumption)
  · exact .inr (.inl (by assumption))
  · exact .inr (.inr (by assumption))
  · cases n
theorem gl_of {X : Cx} {sc : Scope} {x : Str} (e : X.env.scope.names = sc.names) (n : glB sc x = true) : Gl X x := by
  unfold glB at n
  rw [← e] at n
  split at n
  · assumption
  · cases n
theorem seq_of {x y : Str} (n : seqB x y = true) : x = y := of_decide_eq_true n
theorem dbg_of {x : Str} (n : dbgB x = true) : (x == ("__debug__" : Str)) = false ∧ (x == ("__classdict__" : Str)) = false ∧ x ≠ ("__name__" : Str) := by
  unfold dbgB at n
  simp only [Bool.and_eq_true, Bool.not_eq_true'] at n
  obtain ⟨⟨a, b⟩, c⟩ := n
  refine ⟨a, b, fun e => ?_⟩
  rw [e] at c
  simp at c
theorem and3 {a b : Bool} (h : (a && b) = true) : a = true ∧ b = true := Bool.and_eq_true_iff.mp h

theorem LE.mono {f : Fe} {Q Q' : VK} (p : LE g W f σ H Q) (hq : ∀ v H', Q v H' → Q' v H') : LE g W f σ H Q' := by
  obtain ⟨m, τ, h, a, p⟩ := p
  exact ⟨m, τ, h, a, p.mono hq⟩
theorem LA.mono {f : Fes} {Q Q' : List V → Hp → Prop} (p : LA g W f σ H Q) (hq : ∀ v H', Q v H' → Q' v H') : LA g W f σ H Q' := by
  obtain ⟨m, τ, h, a, p⟩ := p
  exact ⟨m, τ, h, a, p.mono hq⟩
theorem LT.mono {f : Ft} {Q Q' : Bool → Hp → Prop} (p : LT g W f σ H Q) (hq : ∀ v H', Q v H' → Q' v H') : LT g W f σ H Q' := by
  obtain ⟨m, τ, h, a, p⟩ := p
  exact ⟨m, τ, h, a, p.mono hq⟩
/-- what stands behind a step -/
structure Bh (g : Gd) (W : WX) (σ : L2.St) (H : Hp) {α β γ δ : Type} (rel : Hp → List Addr → β → α → Prop) (rel' : Hp → List Addr → δ → γ → Prop) (Q : δ → Hp → Prop) (k : α → Sd → Hd → Res γ) (v : β) : Prop where
  ex : ∃ m τ h d, At g σ H m τ h ∧ rel H m v d ∧ Post g W σ H m rel' Q (k d τ h)
theorem LE.bd {γ δ : Type} {rel' : Hp → List Addr → δ → γ → Prop} {Q : δ → Hp → Prop} {f : Fe} {k : D → Sd → Hd → Res γ} (a : At g σ H m τ h) (p : Post g W σ H m rel' Q ((f τ h).bind fun d h1 => k d τ h1)) :
    LE g W f σ H fun v H1 => Bh g W σ H1 (DV g.K) rel' Q k v :=
  ⟨m, τ, h, a, (Post.bind a p).mono fun v H' ⟨m1, h1, d, a1, _, r, p1⟩ => ⟨m1, τ, h1, d, a1, r, p1⟩⟩
theorem LT.bd {γ δ : Type} {rel' : Hp → List Addr → δ → γ → Prop} {Q : δ → Hp → Prop} {f : Ft} {k : Bool → Sd → Hd → Res γ} (a : At g σ H m τ h) (p : Post g W σ H m rel' Q ((f τ h).bind fun d h1 => k d τ h1)) :
    LT g W f σ H fun v H1 => Bh g W σ H1 relB rel' Q k v :=
  ⟨m, τ, h, a, (Post.bind a p).mono fun v H' ⟨m1, h1, d, a1, _, r, p1⟩ => ⟨m1, τ, h1, d, a1, r, p1⟩⟩
theorem LA.bd {γ δ : Type} {rel' : Hp → List Addr → δ → γ → Prop} {Q : δ → Hp → Prop} {f : Fes} {k : List D → Sd → Hd → Res γ} (a : At g σ H m τ h) (p : Post g W σ H m rel' Q ((f τ h).bind fun d h1 => k d τ h1)) :
    LA g W f σ H fun v H1 => Bh g W σ H1 (DVs g.K) rel' Q k v :=
  ⟨m, τ, h, a, (Post.bind a p).mono fun v H' ⟨m1, h1, d, a1, _, r, p1⟩ => ⟨m1, τ, h1, d, a1, r, p1⟩⟩
theorem LE.two {fa fb : Fe} {sem : D → D → Hd → So} {Q : VK} (p : LE g W (fun τ h => (fa τ h).bind fun x h1 => (fb τ h1).bind fun y h2 => ofO (sem x y h2)) σ H Q) : tOp (rD g sem) (LE g W fa) (LE g W fb) σ H Q := by
  obtain ⟨m, τ, h, a, p⟩ := p
  refine (LE.bd (k := fun x τ h1 => (fb τ h1).bind fun y h2 => ofO (sem x y h2)) a p).mono fun x H1 ⟨m1, τ1, h1, d1, a1, r1, p1⟩ => ?_
  refine ⟨m1, τ1, h1, a1, (Post.bind a1 p1).mono fun y H2 ⟨m2, h2, d2, a2, st, r2, p2⟩ => ?_⟩
  exact ⟨m2, h2, d1, d2, a2.rel, r1.stay st, r2, p2.po⟩
theorem LE.one {fa : Fe} {sem : D → Hd → So} {Q : VK} (p : LE g W (fun τ h => (fa τ h).bind fun x h1 => ofO (sem x h1)) σ H Q) : tUn (rU g sem) (LE g W fa) σ H Q := by
  obtain ⟨m, τ, h, a, p⟩ := p
  refine (LE.bd (k := fun x _ h1 => ofO (sem x h1)) a p).mono fun x H1 ⟨m1, τ1, h1, d1, a1, r1, p1⟩ => ?_
  exact ⟨m1, h1, d1, a1.rel, r1, p1.po⟩
theorem LE.pure {f : Fe} {Q : VK} {v : V} {d : Sd → D} (hf : ∀ τ h, f τ h = .ok (d τ) h) (hd : ∀ m τ h, At g σ H m τ h → DV g.K H m v (d τ)) (p : LE g W f σ H Q) : Q v H := by
  obtain ⟨m, τ, h, a, p⟩ := p
  rw [hf] at p
  exact p.ok a (hd m τ h a)
end

section
variable {X : Cx} {c : Ck} {g : Gd} {C : Tab} {W : WX} {k : Nat}
/-- a value's truth as a test -/
theorem pt_tru {e : Expr} {f : Fe} (ok : XOk X c g C W k) (he : PE X e (LE g W f)) (n : plainTruth e = true) : PT X e (LT g W (mkV f).2) := by
  refine PT.weak (pt_truth he fun whole => ?_) fun σ H Q ⟨m, τ, h, a, p⟩ => ?_
  · cases e <;> first | rfl | (cases n; done) | skip
    rename_i o _ _
    cases o <;> first | rfl | cases n
  · refine (LE.bd (k := fun d _ h1 => match truD d h1 with | some k => .ok k h1 | none => .bad) a p).mono fun x H1 ⟨m1, τ1, h1, d1, a1, r1, p1⟩ => ?_
    cases e : truD d1 h1 with
    | none => rw [e] at p1; exact p1.elim
    | some k =>
      rw [e] at p1
      exact ⟨k, truD_ok ok.K a1.rel r1 e, p1.ok a1 rfl⟩
theorem bolR_true {r : Res D} : bolR r = r.bind fun d h => match d with | .bl k => .ok k h | _ => .bad := rfl

/-- the kinds of truth: as in mkV, as in mkC -/
theorem both_v {e : Expr} {f : Fe} (ok : XOk X c g C W k) (he : PE X e (LE g W f)) (n : plainTruth e = true) : PE X e (LE g W (mkV f).1) ∧ PT X e (LT g W (mkV f).2) := ⟨he, pt_tru ok he n⟩
theorem both_i {e : Expr} {f : Fe} (he : PE X e (LE g W f)) (n : plainTruth e = false → False) (ok : XOk X c g C W k) : PE X e (LE g W (mkV f).1) ∧ PT X e (LT g W (mkV f).2) :=
  ⟨he, pt_tru ok he (by cases q : plainTruth e with | true => rfl | false => exact (n q).elim)⟩

structure SEs (X : Cx) (g : Gd) (W : WX) (ees : List Expr) (ps : List (Fe × Ft)) : Prop where
  pa : PA X ees (LA g W (evL ps))
  ns : ∀ e ∈ ees, notStar e = true
  len : ees.length = ps.length
  andv : ∀ pos, PE X (.BoolOp .And ees pos) (LE g W (andV ps))
  orv : ∀ pos, PE X (.BoolOp .Or ees pos) (LE g W (orV ps))
  andt : ∀ pos, PW X (.BoolOp .And ees pos) (LT g W (andT ps))
  ort : ∀ pos, PW X (.BoolOp .Or ees pos) (LT g W (orT ps))
theorem never_e {e : Expr} : PE X e (LE g W fun _ _ => .bad) := ⟨fun _ _ _ _ _ _ ⟨_, _, _, _, p⟩ => p.elim⟩
theorem never_w {e : Expr} : PW X e (LT g W fun _ _ => .bad) := ⟨fun _ _ _ _ _ _ _ ⟨_, _, _, _, p⟩ => p.elim⟩
theorem never_t {e : Expr} : PT X e (LT g W fun _ _ => .bad) := ⟨fun _ _ _ _ _ _ ⟨_, _, _, _, p⟩ => p.elim⟩
theorem ses_nil : SEs X g W [] [] where
  pa := PA.weak pa_nil fun σ H Q ⟨m, τ, h, a, p⟩ => p.ok a .nil
  ns := fun _ z => nomatch z
  len := rfl
  andv := fun _ => never_e
  orv := fun _ => never_e
  andt := fun _ => never_w
  ort := fun _ => never_w
theorem ses_cons {e : Expr} {es : List Expr} {p : Fe × Ft} {ps : List (Fe × Ft)} (he : PE X e (LE g W p.1)) (ht : PT X e (LT g W p.2)) (n : notStar e = true) (r : SEs X g W es ps) : SEs X g W (e :: es) (p :: ps) where
  pa := PA.weak (pa_cons he r.pa (star_of n)) fun σ H Q ⟨m, τ, h, a, q⟩ => by
    refine (LE.bd (k := fun d τ h1 => (evL ps τ h1).bind fun ds h2 => .ok (d :: ds) h2) a q).mono fun x H1 ⟨m1, τ1, h1, d1, a1, r1, p1⟩ => ?_
    refine ⟨m1, τ1, h1, a1, (Post.bind a1 p1).mono fun xs H2 ⟨m2, h2, d2, a2, st, r2, p2⟩ => ?_⟩
    exact p2.ok a2 (.cons (r1.stay st) r2)
  ns := fun x hx => by
    rcases List.mem_cons.mp hx with rfl | hx
    · exact n
    · exact r.ns x hx
  len := congrArg (· + 1) r.len
  andv := fun pos => by
    match es, ps, r with
    | [], [], _ => exact pe_one he
    | [], _ :: _, r => cases r.len
    | _ :: _, [], r => cases r.len
    | e2 :: es, p2 :: ps, r =>
      refine PE.weak (pe_and he (r.andv pos)) fun σ H Q ⟨m, τ, h, a, q⟩ => ?_
      refine (LE.bd (k := fun d τ h1 => match d with | .bl true => andV (p2 :: ps) τ h1 | .bl false => .ok (.bl false) h1 | _ => .bad) a q).mono fun x H1 ⟨m1, τ1, h1, d1, a1, r1, p1⟩ => ?_
      cases r1 with
      | bl b =>
        refine ⟨b, rfl, ?_⟩
        cases b with
        | true => exact ⟨m1, τ1, h1, a1, p1⟩
        | false => exact p1.ok a1 (.bl _)
      | _ => exact p1.elim
  orv := fun pos => by
    match es, ps, r with
    | [], [], _ => exact pe_one he
    | [], _ :: _, r => cases r.len
    | _ :: _, [], r => cases r.len
    | e2 :: es, p2 :: ps, r =>
      refine PE.weak (pe_or he (r.orv pos)) fun σ H Q ⟨m, τ, h, a, q⟩ => ?_
      refine (LE.bd (k := fun d τ h1 => match d with | .bl false => orV (p2 :: ps) τ h1 | .bl true => .ok (.bl true) h1 | _ => .bad) a q).mono fun x H1 ⟨m1, τ1, h1, d1, a1, r1, p1⟩ => ?_
      cases r1 with
      | bl b =>
        refine ⟨b, rfl, ?_⟩
        cases b with
        | true => exact p1.ok a1 (.bl _)
        | false => exact ⟨m1, τ1, h1, a1, p1⟩
      | _ => exact p1.elim
  andt := fun pos => by
    match es, ps, r with
    | [], [], _ => exact pw_and1 ht
    | [], _ :: _, r => cases r.len
    | _ :: _, [], r => cases r.len
    | e2 :: es, p2 :: ps, r =>
      refine PW.weak (pw_and ht (r.andt pos)) fun σ H Q ⟨m, τ, h, a, q⟩ => ?_
      refine (LT.bd (k := fun c τ h1 => if c = true then andT (p2 :: ps) τ h1 else .ok false h1) a q).mono fun x H1 ⟨m1, τ1, h1, d1, a1, r1, p1⟩ => ?_
      cases (show x = d1 from r1)
      cases x with
      | true => exact ⟨m1, τ1, h1, a1, p1⟩
      | false => exact p1.ok a1 rfl
  ort := fun pos => by
    match es, ps, r with
    | [], [], _ => exact pw_or1 ht
    | [], _ :: _, r => cases r.len
    | _ :: _, [], r => cases r.len
    | e2 :: es, p2 :: ps, r =>
      refine PW.weak (pw_or ht (r.ort pos)) fun σ H Q ⟨m, τ, h, a, q⟩ => ?_
      refine (LT.bd (k := fun c τ h1 => if c = true then .ok true h1 else orT (p2 :: ps) τ h1) a q).mono fun x H1 ⟨m1, τ1, h1, d1, a1, r1, p1⟩ => ?_
      cases (show x = d1 from r1)
      cases x with
      | true => exact p1.ok a1 rfl
      | false => exact ⟨m1, τ1, h1, a1, p1⟩

def LO (g : Gd) (W : WX) (f : Fo) : TO := fun σ H Q => ∃ m τ h, At g σ H m τ h ∧ Post g W σ H m (fun _ _ v d => v = d) Q (f τ h)
theorem take1 {xs : List V} {ds : List D} {K : PySem.W.Frag} {H : Hp} {m : List Addr} (r : DVs K H m xs ds) (z : ds.length ≤ sizeLine) : xs.length ≤ sizeLine := by rw [r.length]; exact z

end
end DL

set_option Elab.async false
set_option linter.all false
set_option maxRecDepth 100000
namespace DL
open PySem PySem.Spec PyProof.Rows L2
def startD (n : Nat) (ds : List D) : Sd := ds.map some ++ List.replicate (n - ds.length) none
theorem start_sv {K : PySem.W.Frag} {H : Hp} {m : List Addr} {N : List Str} {vs : List V} {ds : List D} (q : DVs K H m vs ds) (hn : vs.length ≤ N.length) : SV K H m (L2.start N vs) (startD N.length ds) := by
  unfold L2.start startD
  rw [← q.length]
  refine ⟨by simp [q.length], fun i d e => ?_⟩
  by_cases hi : i < vs.length
  · rw [List.getElem?_append_left (by simpa [← q.length] using hi), List.getElem?_map] at e
    rw [List.getElem?_append_left (by simpa using hi), List.getElem?_map]
    cases q1 : ds[i]? with
    | none => rw [q1] at e; cases e
    | some d' =>
      rw [q1] at e
      have e' : d' = d := by simpa using e
      subst e'
      obtain ⟨v, q2, q3⟩ := q.get q1
      exact ⟨v, by rw [q2]; rfl, q3⟩
  · rw [List.getElem?_append_right (by simpa [← q.length] using hi)] at e
    rw [List.getElem?_replicate] at e
    split at e <;> cases e
theorem lstOf_ok {g : Gd} {H : Hp} {m : List Addr} {h : Hd} {v : V} {d : D} {ds : List D} (r : Rel g H m h) (q : DV g.K H m v d) (e : lstOf h d = some ds) : ∃ a xs, v = .ref a ∧ SqL g.K H a xs ∧ DVs g.K H m xs ds := by
  cases q with
  | rol hr t => cases e; exact ⟨_, _, rfl, hr.sq, t⟩
  | ref hm =>
    simp only [lstOf] at e
    split at e
    · cases e
      obtain ⟨xs, q1, q2⟩ := r.lst hm (by assumption)
      exact ⟨_, xs, rfl, .inl (.inl q1), q2⟩
    · cases e
  | _ => cases e
theorem in2_units {A : Around} : A.in1.in1.units = A.units + 2 := rfl
theorem in2_depth {A : Around} : A.in1.in1.depth = A.depth := rfl
section
variable {P : Program} {w : World} {K : PySem.W.Frag} {mg : Str → Option Value} {base : Heap} {A : Around} {outer : List Env} {s : Shared} {H : Hp} {f c' : Addr} {qual a : Str} {params : Arguments} {body : Expr} {scope : Scope} {N : List Str} {pm ctv u : Value} {x : V} {Q : VK} {E : XK}
/-- a lambda of one parameter is called -/
theorem lam_run (S : FnScope N [a] scope) (hr : Room 1 A) (e0 : Env0 P w K mg base A outer s H) (ho : s.heap.get? f = some (PySem.W.kla_obj "<lambda>" qual params body scope [] pm c' ctv)) (hc : H c' = some (LamX.CodeO c' qual))
    (hb : bindArgs (PySem.W.kla_fn "<lambda>" qual params body scope [] pm (.ref c') ctv) ⟨[u], []⟩ = pure [(a, u)]) (r : RelV x u) (hbody : ∃ t, PE (cxOf (L2.CX P w) P w K mg base N qual scope f (.ref c') A outer s H E) body t ∧ t (L2.start N [x]) H Q) :
    codeAny (model P w) A (.call (.ref f) ⟨[u], []⟩) (CR (L2.CX P w) outer P w H s Q E) s := by
  have lim : s.heap.NoLimit := e0.mod.nolimit.keeps fun b o e => (e0.bs b o e).1
  obtain ⟨⟨oc, vs, t, hoc, hdc, hvc⟩, _, _⟩ := e0.hok c' _ hc
  have hkind : ∀ y ∈ [(a, u)], scope.names.lookup y.1 = some .local ∨ (scope.names.lookup y.1 = some .cell ∧ ((cellsFrom (s.heap.objs.size + 1) scope.names []).lookup y.1).isSome = true) := fun y hy => by
    rw [List.mem_singleton.mp hy]
    rcases S.par a List.mem_cons_self with q | q
    · exact .inl q
    · exact .inr ⟨q, PySem.W.cellsFrom_some _ _ _ (.inl q)⟩
  refine PySem.W.kla_callFunE hr.depth ho rfl S.co S.gen rfl ⟨c', oc, vs, t, rfl, hoc, hdc, hvc⟩ ?_
  rw [hb]
  refine wpAny_pure (wpAny_newFunctionEnv_cells S.kind hkind fun env he s1 x1 => ?_)
  subst he
  refine ⟨lim.keeps x1.toInCall.keep, PySem.W.kla_codeExpr ?_⟩
  obtain ⟨t, ht, hq⟩ := hbody
  have I : Inv (cxOf (L2.CX P w) P w K mg base N qual scope f (.ref c') A outer s H E) [] (L2.start N [x]) H s1 := inv_start S hr.hd e0 rfl (.cons r .nil) x1
  refine wpAny_mono (ht.run [] s1 (L2.start N [x]) H _ I hq) (fun v s' hs => ?_) fun e s' hs => hs
  obtain ⟨w', H', J, rv, q⟩ := hs
  exact ⟨w', H', J.os, J.bare, J.base, J.hok, rv, q⟩
end
section
variable {X : Cx} {c : Ck} {g : Gd} {C : Tab} {W : WX} {k : Nat}
theorem room_in2 {k : Nat} {A : Around} (r : Room (k + 1) A) : Room k A.in1.in1 :=
  ⟨r.hd, by have := r.dp; rw [in2_depth]; omega, by have := r.un; rw [in2_units]; omega⟩
theorem env0_in2 {P : Program} {w : World} {K : PySem.W.Frag} {mg : Str → Option Value} {base : Heap} {A : Around} {outer : List Env} {s : Shared} {H : Hp} (e : Env0 P w K mg base A outer s H) : Env0 P w K mg base A.in1.in1 outer s H :=
  ⟨e.frames, e.mod, e.bs, e.bsz, e.funs, e.frf, e.hok, e.bare⟩
theorem cx_never {P : Program} {w : World} {outer : List Env} {H : Hp} {s s' : Shared} {e : Value} (h : L2.CX P w outer H s (fun _ _ _ => False) e s') : False := by
  obtain ⟨_, _, _, _, _, _, _, _, _, _, _, _, z⟩ := h
  exact z
theorem kcall_def {f : Addr} {fd : FuncData} {ps : List Str} {F : Fn} (Fo : FnOk X.prog X.w X.K X.mg X.base (L2.CX X.prog X.w) k f fd ps (spF g 1 F)) (bd : Binds X.K fd ps []) (hl : ps.length = 1) (hr : Room (k + 1) X.A) : KCall X g (.ref f) [] [] fun d h => F [d] h := by
  intro pins s σ H m h x d u kd h1 _ I rx r _ q e
  refine wpAny_call (codeAny_mono (Fo.run X.A.in1.in1 X.stack s H ⟨[u], []⟩ [u] [x] (fun v H' => ∃ m', Ext H m H' m' ∧ Rel g H' m' h1 ∧ DV g.K H' m' v kd) (fun _ _ _ => False) (room_in2 hr) (env0_in2 I.env0) ?_ (.cons rx .nil) ⟨m, h, [d], r, .cons q .nil, rfl, ?_⟩) fun rr s' hq => ?_)
  · exact bd s [u] I.kIn (by rw [hl]; rfl)
  · show PF g H m _ _ (F [d] h)
    have e' : F [d] h = .ok kd h1 := e
    rw [e']
    exact fun v H' m' x' r' q' => ⟨m', x', r', q'⟩
  · cases rr with
    | error e => exact (cx_never hq).elim
    | ok fl =>
      cases fl with
      | ret u => exact I.after hq
      | next => exact False.elim hq
      | brk => exact False.elim hq
      | cont => exact False.elim hq
/-- what is wanted of a sort, from its meaning -/
theorem sortR_post {F : D → Hd → Res D} {σ : L2.St} {H : Hp} {m : List Addr} {h : Hd} {v : V} {d : D} {Q : VK} (r : Rel g H m h) (q : DV g.K H m v d) (p : Post g W σ H m (DV g.K) Q (sortR F d h)) :
    ∃ a xs ds ks h1, v = .ref a ∧ SqL g.K H a xs ∧ DVs g.K H m xs ds ∧ keysL F ds h = .ok ks h1 ∧ SortsOk ks ∧
      ∀ H' m' p ys, Ext H m H' m' → Rel g H' m' h1 → H' p = none → DVs g.K H' m' ys (sortB (ds.zip ks)) → Q (.ref p) (upd H' p (.lst ys)) := by
  unfold sortR at p
  split at p
  · exact p.elim
  · rename_i ds e
    obtain ⟨a, xs, rfl, hs, hd⟩ := lstOf_ok r q e
    cases e2 : keysL F ds h with
    | ex x h1 => rw [e2] at p; exact p.elim
    | bad => rw [e2] at p; exact p.elim
    | ok ks h1 =>
      rw [e2] at p
      have p' : Post g W σ H m (DV g.K) Q (open Classical in if SortsOk ks then .ok (.ref h1.length) (h1 ++ [.lst (sortB (ds.zip ks))]) else .bad) := p
      by_cases so : SortsOk ks
      · rw [if_pos so] at p'
        refine ⟨a, xs, ds, ks, h1, rfl, hs, hd, e2, so, fun H' m' p ys x' r' hp hy => ?_⟩
        exact p' (.ref p) _ _ (x'.trans (.new hp (r'.notin hp))) (r'.new hp (newLst r' hp hy)) (.ref (by rw [← r'.len]; simp))
      · rw [if_neg so] at p'; exact p'.elim
theorem key_name : ((Str.ofString "key") : Str) = ("key" : Str) := rfl
/-- sorted(e, key=ke) -/
theorem pe_sorted {fe : Fe} {F : D → Hd → Res D} {e ke : Expr} {p kp pos : Pos} (hK : X.K = g.K) (hr : Room (k + 2) X.A) (hg : Gl X "sorted") (hm : X.mg "sorted" = none) (he : PE X e (LE g W fe)) (ns : notStar e = true)
    (hk : ∀ (pins : List (Addr × Obj)) (s : Shared) (σ : L2.St) (H : Hp) (m : List Addr) (h : Hd) (Q : Value → Shared → Prop), Inv X pins σ H s → Rel g H m h →
      (∀ (f : Addr) (pins0 : List (Addr × Obj)) (live : List (Addr × HO)) (s2 : Shared) (H2 : Hp), Inv X (pins0 ++ pins) σ H2 s2 → Ext H m H2 m → LamX.ExtN H H2 → Rel g H2 m h → Live live H2 m → KCall X g (.ref f) pins0 live F → Q (.ref f) s2) →
      wpAny (model X.prog X.w) X.A (eval ke X.env) Q X.xe s) :
    PE X (.Call (.Name "sorted" p) [e] [⟨some "key", ke, kp⟩] pos) (LE g W fun τ h => (fe τ h).bind fun x h1 => sortR F x h1) := by
  refine ⟨fun pins s σ H Q I hle => ?_⟩
  obtain ⟨m, τ, h, a, hp⟩ := hle
  refine wpAny_Call_Name_kw (ld_blt I hg hm (by decide +kernel : bootBuiltins "sorted" = some (.builtin "sorted")) ?_ (by decide) (by decide))
  have he' := (pa_cons he pa_nil (star_of ns)).run pos pins s σ H (fun vs H1 => ∃ v, vs = [v] ∧ Bh g W σ H1 (DV g.K) (DV g.K) Q (fun d _ h1 => sortR F d h1) v) I
    ((LE.bd (k := fun d _ h1 => sortR F d h1) a hp).mono fun v H1 b => ⟨v, rfl, b⟩)
  refine PyProof.Rows.callWith_kw (thn he' fun us s1 ⟨vs, H1, I1, r1, q1⟩ => ?_) (by rw [star_of ns]; rfl) (by rw [star_of ns]; rfl)
  obtain ⟨v, rfl, m1, τ1, h1, d1, a1, r1', p1⟩ := q1
  obtain ⟨la, xs, ds, ks, h2, rfl, hs, hd, ek, so, fin⟩ := sortR_post a1.rel r1' p1
  obtain rfl := Vals.ref1 r1
  show wpAny _ _ (evalAll [do let v ← eval ke X.env; standAt pos; pure v]) _ _ s1
  refine wpAny_evalAll_cons (wpAny_bind (hk pins s1 σ H1 m1 h1 _ I1 a1.rel fun f pins0 live s2 H2 I2 x2 n2 r2 lv kc => wpAny_bind (wpAny_standAt (wpAny_pure (wpAny_evalAll_nil ?_)))))
  have st := a1.rel.stay x2
  have hs2 : SqL X.K H2 la xs := by
    rw [hK]
    rcases hs with (q | ⟨o, q⟩) | q
    · exact .inl (.inl (n2 _ _ q fun _ z => nomatch z))
    · exact .inl (.inr ⟨o, n2 _ _ q fun _ z => nomatch z⟩)
    · exact .inr q
  refine wpAny_mono (sort_run (pins := pins0 ++ pins) hK (by have := hr.un; omega) kc (fun z hz => List.mem_append_left _ hz) I2 hs2 r2 lv (hd.stay st) ek so _ (PyProof.Rows.ksk_s1 _ _) (fun _ => PyProof.Rows.ksk_l1 _ _) (fun x => PyProof.Rows.ksk_t1 _ _) fun H' m' p ys x' r' hp hy => fin H' m' p ys (x2.trans x') r' hp hy) (fun u s3 hq => ?_) fun _ _ z => z
  obtain ⟨v', H3, I3, rv, q3⟩ := hq
  exact ⟨v', H3, Inv.unpin I3 fun z hz => List.mem_append_right _ hz, rv, q3⟩
/-- key=f, f a def -/
theorem k_def {F : Fn} {y : Str} {kp : Pos} {f : Addr} {fd : FuncData} {ps : List Str} (hr : Room (k + 2) X.A) (Fo : FnOk X.prog X.w X.K X.mg X.base (L2.CX X.prog X.w) k f fd ps (spF g 1 F)) (bd : Binds X.K fd ps []) (hl : ps.length = 1) (hgy : Gl X y) (hmy : X.mg y = some (.ref f)) (hdb : (y == ("__debug__" : Str)) = false)
    (pins : List (Addr × Obj)) (s : Shared) (σ : L2.St) (H : Hp) (m : List Addr) (h : Hd) (Q : Value → Shared → Prop) (I : Inv X pins σ H s) (r : Rel g H m h)
    (q : ∀ (f : Addr) (pins0 : List (Addr × Obj)) (live : List (Addr × HO)) (s2 : Shared) (H2 : Hp), Inv X (pins0 ++ pins) σ H2 s2 → Ext H m H2 m → LamX.ExtN H H2 → Rel g H2 m h → Live live H2 m → KCall X g (.ref f) pins0 live (fun d h => F [d] h) → Q (.ref f) s2) :
    wpAny (model X.prog X.w) X.A (eval (.Name y kp) X.env) Q X.xe s :=
  ld_glob I hgy hmy (q f [] [] s H I .refl (.refl H) r (fun _ z => nomatch z) (kcall_def Fo bd hl (hr.mono (by omega)))) hdb
theorem cloFrom_nil {cells : List (Str × Addr)} {names : List (Str × NameKind)} (h : ∀ y ∈ names, y.2 ≠ .free) : cloFrom cells names [] = [] := by
  cases q : cloFrom cells names [] with
  | nil => rfl
  | cons p l =>
    obtain ⟨n, cc⟩ := p
    rcases cloFrom_mem (cells := cells) (names := names) (acc := []) (n := n) (c := cc) (by rw [q]; exact List.mem_cons_self) with z | z
    · cases z
    · exact absurd rfl (h _ z.1)
theorem bind_one (a q : Str) (ap : Pos) (body : Expr) (scope : Scope) (pm c ct u : Value) : bindArgs (PySem.W.kla_fn "<lambda>" q ⟨[], [⟨a, none, ap⟩], none, [], [], none, []⟩ body scope [] pm c ct) ⟨[u], []⟩ = pure [(a, u)] := by
  have e : List.lookup a [(a, u)] = some u := by simp
  unfold bindArgs
  simp [e, seqItems?]
  rfl
/-- key=lambda a: body -/
theorem k_lam {a : Str} {params : Arguments} {body : Expr} {scope : Scope} {lp : Pos} {fb : Fe} (ok : XOk X c g C W k) (hlam : c.lam = true) (hpar : lamPar params = some a) (S : FnScope [a] [a] scope)
    (hbody : ∀ (X' : Cx) (W' : WX), XOk X' (c.lamC a scope) g C W' 0 → PE X' body (LE g W' fb))
    (pins : List (Addr × Obj)) (s : Shared) (σ : L2.St) (H : Hp) (m : List Addr) (h : Hd) (Q : Value → Shared → Prop) (I : Inv X pins σ H s) (r : Rel g H m h)
    (q : ∀ (f : Addr) (pins0 : List (Addr × Obj)) (live : List (Addr × HO)) (s2 : Shared) (H2 : Hp), Inv X (pins0 ++ pins) σ H2 s2 → Ext H m H2 m → LamX.ExtN H H2 → Rel g H2 m h → Live live H2 m → KCall X g (.ref f) pins0 live (fun d h => fb [some d] h) → Q (.ref f) s2) :
    wpAny (model X.prog X.w) X.A (eval (.Lambda params body scope lp) X.env) Q X.xe s := by
  obtain ⟨k1, cc, P, hcode, TB, hmT, hu⟩ := ok.lam hlam
  have hnil : cloFrom X.env.cells scope.names [] = [] := cloFrom_nil S.nofree
  obtain ⟨ap, rfl⟩ : ∃ ap, params = ⟨[], [⟨a, none, ap⟩], none, [], [], none, []⟩ := by
    unfold lamPar at hpar
    split at hpar
    · rename_i ap
      cases hpar
      exact ⟨_, rfl⟩
    · cases hpar
  refine LamX.lam_make2 I TB hcode hmT hu r.tabs (by rfl) (fun y hy e => absurd e (S.nofree y hy)) fun f c' pm ctv H1 s' I1 eN T1 hf hfn hfr hco => ?_
  rw [hnil] at hf
  have nc : c' ∉ m := fun z => by
    obtain ⟨n, o, e1, e2, x⟩ := r.mem z
    obtain ⟨u, e3, _, _, n1, n2⟩ := x.some
    have e4 := eN c' u e3 n1
    rw [hco] at e4
    cases e4
    exact n2 _ rfl
  have x1 : Ext H m H1 m := ⟨⟨[], by simp, fun _ z => nomatch z⟩, fun a o _ e t => eN a o e t⟩
  have r1 : Rel g H1 m h := ⟨r.len, r.nd, fun n a o e1 e2 => by
    have x := r.obj n a o e1 e2
    obtain ⟨u, e3, _, _, n1, _⟩ := x.some
    exact x.stay (r.stay x1) ((eN a u e3 n1).trans e3.symm), T1⟩
  have nloc : f ≠ X.env.locals := fun z => by
    obtain ⟨mm, ⟨o, es, ep, e, d, _⟩, _⟩ := I1.loc
    rw [← z, hf] at e
    cases e
    cases d
  have nfs : f ∉ X.fs := fun z => by
    rcases I1.ok.stk with e | ⟨e, _⟩
    · rw [e] at hfr; exact hfr z
    · rw [e] at hfr
      refine hfr ?_
      have z' : f ∈ X.outer.filterMap (·.frame) := z
      obtain ⟨en, h1, h2⟩ := List.mem_filterMap.mp z'
      exact List.mem_filterMap.mpr ⟨en, List.mem_cons_of_mem _ h1, h2⟩
  have I2 : Inv X ([(f, PySem.W.kla_obj "<lambda>" (X.env.qual ++ "<lambda>") ⟨[], [⟨a, none, ap⟩], none, [], [], none, []⟩ body scope [] pm c' ctv)] ++ pins) σ H1 s' := by
    refine ⟨I1.ok, I1.os, I1.bare, I1.base, I1.loc, I1.cell, I1.free, I1.freeC, fun p z => ?_, I1.hok, I1.len⟩
    rcases List.mem_append.mp z with z | z
    · exact I1.pin p (List.mem_append_left _ z)
    · rcases List.mem_append.mp z with z | z
      · rw [List.mem_singleton.mp z]
        exact ⟨hf, hfn, nloc, nfs, fun v z => nomatch z⟩
      · exact I1.pin p (List.mem_append_right _ z)
  refine q f _ [(c', LamX.CodeO c' (X.env.qual ++ "<lambda>"))] s' H1 I2 x1 eN r1 (fun p hp => by
    rw [List.mem_singleton.mp hp]
    exact ⟨hco, nc, fun ps z => LamX.codeO_ne ps z⟩) ?_
  intro pins2 s2 σ2 H2 m2 h2 x d u kd h3 hsub J rx r2 lv q2 e
  have hf2 := (J.pin _ (List.mem_append_right _ (hsub List.mem_cons_self))).1
  have hc2 := (lv _ List.mem_cons_self).1
  refine wpAny_call (codeAny_mono (lam_run (P := X.prog) (w := X.w) (K := X.K) (mg := X.mg) (base := X.base) (A := X.A.in1.in1) (outer := X.stack) (Q := fun v H' => ∃ m', Ext H2 m2 H' m' ∧ Rel g H' m' h3 ∧ DV g.K H' m' v kd) (E := fun _ _ _ => False) S ((room_in2 ok.room).mono (by omega)) (env0_in2 J.env0) hf2 hc2 (bind_one _ _ _ _ _ _ _ _ _) rx ⟨_, hbody _ (fun cls d _ H => False) ?_, ?_⟩) fun rr s' hq => ?_)
  · have rm := ok.room
    exact {
      N := rfl
      nd := S.nd
      sc := rfl
      kind := S.kind
      ckind := S.kind
      K := ok.K
      calm := rfl
      cells := fun _ _ => rfl
      free := ok.free
      fns := fun f x n z => by cases (show ([] : List (Nat × (Str × Nat))).lookup f = some (x, n) from z)
      room := ⟨rm.hd, by have := rm.dp; show X.A.depth + 1 + 3 * (0 + 3) + 5 < _; omega, by have := rm.un; show X.A.units + 2 + 3 + 16 * (0 + 3) + 200 < _; omega⟩
      lam := fun z => nomatch z
      takes := takes_of rfl rfl rfl rfl
      own := passes_of rfl }
  · have e' : fb [some d] h2 = .ok kd h3 := e
    refine ⟨m2, [some d], h2, ⟨r2, ?_⟩, ?_⟩
    · exact start_sv (N := [a]) (DVs.cons q2 .nil) (Nat.le_refl _)
    · rw [e']
      exact fun v H' m' x' r' q' => ⟨m', x', r', q'⟩
  · cases rr with
    | error e => exact (cx_never hq).elim
    | ok fl =>
      cases fl with
      | ret u => exact J.after hq
      | next => exact False.elim hq
      | brk => exact False.elim hq
      | cont => exact False.elim hq
end
end DL

set_option Elab.async false
set_option linter.all false
set_option maxRecDepth 100000
namespace PySem
open Sem (wp)
set_option maxHeartbeats 1000000 in
theorem dl_meets_enum1 {v : Value} {o : Obj} {H : Heap → Prop} (B : Begins v o H) :
    Meets (Builtin.«enumerate.__new__» ⟨[.type "enumerate", v], []⟩) (fun _ R s => H s.heap ∧
      R (.ok (.ret (.ref (s.heap.push o).objs.size))) { s with heap := (s.heap.push o).push { cls := .type "enumerate", data := .fields #[.none, .bool false, .ref s.heap.objs.size, rawInt 0, .none, .none] } }) :=
  .of_wp fun prog w A R s h => by
    obtain ⟨hp, g, d, tk, os⟩ := s; obtain ⟨h1, h⟩ := h
    have hsub := sub_enumerate
    have q1 : ∀ {A' : Around} {E : Value → Shared → Prop} {Q : Value → Shared → Prop}, Q (.ref hp.objs.size) ⟨hp.push o, g, d, tk, os⟩ → wpAny (model prog w) A' (pyIter v) Q E ⟨hp, g, d, tk, os⟩ :=
      fun q => B.iter prog w _ _ ⟨hp, g, d, tk, os⟩ _ h1 q
    wp_walk using q1
    refine wpAny_stack_any fun st => wpAny_pure ?_
    split
    · rename_i c _ _ _ _ _
      cases (c == Value.type "enumerate")
      · wp_walk using q1
        exact ⟨_, rfl, h⟩
      · wp_walk using q1
        exact ⟨_, rfl, h⟩
    · wp_walk using q1
      exact ⟨_, rfl, h⟩
theorem dl_call_enum1 {prog : Program} {w : World} {A : Around} {E : Value → Shared → Prop} {s : Shared} {v : Value} {o : Obj} {H : Heap → Prop} {Q : Value → Shared → Prop} (B : Begins v o H) (h1 : H s.heap)
    (h : ∀ h', IsEnum h' (s.heap.objs.size + 1) s.heap.objs.size 0 .none → h'.get? s.heap.objs.size = some o → h'.objs.size = s.heap.objs.size + 2 →
      (∀ b o, s.heap.get? b = some o → h'.get? b = some o) → Q (.ref (s.heap.objs.size + 1)) { s with heap := h' }) :
    wpAny (model prog w) A (call (.type "enumerate") [v]) Q E s := by
  refine callType_new F.called_enumerate (by decide) (F.typeCall_enumerate_1 _) (F.newCall_enumerate_1 _) (fun obj => F.args_object_init_2 obj _) F.entry_enumerate_new
    (dl_meets_enum1 B) ⟨h1, ?_⟩
  have hz : (s.heap.push o).objs.size = s.heap.objs.size + 1 := Heap.size_push ..
  show _ ∧ _
  rw [hz]
  have he : IsEnum ((s.heap.push o).push { cls := .type "enumerate", data := .fields #[.none, .bool false, .ref s.heap.objs.size, rawInt 0, .none, .none] }) (s.heap.objs.size + 1) s.heap.objs.size 0 .none := by
    have := Heap.get?_push_size (s.heap.push o) (o := { cls := .type "enumerate", data := .fields #[.none, .bool false, .ref s.heap.objs.size, rawInt 0, .none, .none] }) rfl
    rw [hz] at this; exact this
  refine ⟨⟨_, he, rfl⟩, h _ he (Heap.get?_push_of_some _ (Heap.get?_push_size _ B.free)) (by rw [Heap.size_push, hz]) fun b o x => Heap.get?_push_of_some _ (Heap.get?_push_of_some _ x)⟩
end PySem
namespace DL
open PySem PySem.Spec PyProof.Rows L2

/-- enumerate over the tuple at a -/
def IteT (K : PySem.W.Frag) (a : Addr) : It :=
  ⟨fun i H => ∃ (xs : List V) (x : V), SqT K H a xs ∧ xs[i]? = some x, fun i H v H' => ∃ T x, v = .ref T ∧ H T = none ∧ H' = upd H T (.tup [.int (i : Nat), x]) ∧ ∀ xs, SqT K H a xs → xs[i]? = some x, fun i H => ∃ xs : List V, SqT K H a xs ∧ xs.length ≤ i⟩
theorem tup_size {h : Heap} {a : Addr} {its : Array Value} {o : Obj} (e : h.get? a = some o) : a < h.objs.size := Heap.lt_size e
theorem turn_enumT {P : Program} {w : World} {K : PySem.W.Frag} {elts : List Expr} {kk : Nat} {tpos : Pos} (a e it : Addr) :
    Turn P w K (.Tuple elts kk tpos) (IteT K a) [e, it] e (fun i h => (∃ old, IsEnum h e it ((i : Nat) : Int) old) ∧ h.IsTupleIter it a i ∧ e ≠ it ∧ a ≠ e ∧ a ≠ it) where
  mem := by simp
  obj := fun i h st b hb => by
    obtain ⟨⟨old, he⟩, ⟨o, ho, hc, hd⟩, _⟩ := st
    have e' : b = e ∨ b = it := by simpa using hb
    rcases e' with z | z
    · rw [z]; exact ⟨_, he, fun v q => nomatch q⟩
    · rw [z]; exact ⟨o, ho, fun v q => by rw [hd] at q; cases q⟩
  keep := fun i h h' st k => let ⟨⟨old, he⟩, hi, hne⟩ := st; ⟨⟨old, k e (by simp) _ he⟩, hi.at fun o q => k it (by simp) o q, hne⟩
  item := by
    intro X hP hw hK hc i pins s σ H E I hf st hg
    subst hP hw hK
    obtain ⟨⟨old, he⟩, hit, hne, hae, hai⟩ := st
    obtain ⟨xs, x, hq, hx⟩ := hg
    obtain ⟨its, rv, p, hz⟩ := I.tuple hq
    obtain ⟨u, hu, ru⟩ := rv.get hx
    have hel : e < s.heap.objs.size := Heap.lt_size he
    have hil : it < s.heap.objs.size := by obtain ⟨_, q, _⟩ := hit; exact Heap.lt_size q
    have D := Draws.tuple (prog := X.prog) (w := X.w) (A := X.A.in1) (I.ok.hd hc) it a hai its.toArray
    have hlt : i < its.toArray.size := by
      have := (List.getElem?_eq_some_iff.mp hu).1
      simpa using this
    refine wpAny_pyNext_enum_itemC D he ⟨hit, p⟩ hlt hne (by simp only [List.mem_cons, List.not_mem_nil, or_false, not_or]; exact ⟨hne, Ne.symm hae⟩) fun x' h' tk hP ho hst hT hsz hk => ?_
    have ex : x' = u := by
      have e1 : its.toArray[i]? = some u := by simpa using hu
      rw [e1] at hP; exact (Option.some.inj hP).symm
    subst ex
    refine ⟨_, rfl, wpAny_letOwnedTupleGo_enum (s := { s with heap := h', toks := tk + 1 }) ho fun h'' he' sb => ?_⟩
    have hT2 : h''.get? s.heap.objs.size = some { cls := .type "tuple", data := .seq #[.int i tk, x'] } := (sb.2 _ (Nat.ne_of_gt hel)).trans hT
    have new : ObjOk X.prog X.w (upd H s.heap.objs.size (.tup [.int (i : Nat), x])) h'' s.heap.objs.size (.tup [.int (i : Nat), x]) :=
      ⟨by show 2 ≤ sizeLine; decide, [.int i tk, x'], .cons ⟨_, rfl⟩ (.cons ru .nil), ⟨_, hT2, rfl, _, rfl⟩⟩
    have I1 : Inv X pins σ (upd H s.heap.objs.size (.tup [.int (i : Nat), x])) { s with heap := h'', toks := tk + 1 } :=
      I.turnedNew (ch := [e, it]) (fun b ob hb q => (sb.2 b (fun z => hb (by simp [z]))).trans (hk b ob (fun z => hb (by simp [z])) (fun z => hb (by simp [z])) q)) hf (Nat.le_refl _) new
    refine ⟨.ref s.heap.objs.size, _, I1, rfl, ⟨_, x, rfl, I.hok.fresh (Nat.le_refl _), rfl, fun ys hy => by rw [I.tuple_inj hy hq]; exact hx⟩, ⟨⟨x', ?_⟩, hst.1.at fun o q => (sb.2 it (Ne.symm hne)).trans q, hne, hae, hai⟩, fun b hb => ?_⟩
    · have e1 : ((i + 1 : Nat) : Int) = (i : Int) + 1 := by omega
      rw [e1]; exact he'
    · have hb' : b < s.heap.objs.size := by
        have e' : b = e ∨ b = it := by simpa using hb
        rcases e' with z | z
        · rw [z]; exact hel
        · rw [z]; exact hil
      rw [upd_ne (Nat.ne_of_lt hb')]
      exact (hf b hb).1
  done := by
    intro X hP hw hK hc i pins s σ H E I hf st hg
    subst hP hw hK
    obtain ⟨⟨old, he⟩, hit, hne, hae, hai⟩ := st
    obtain ⟨xs, hq, hx⟩ := hg
    obtain ⟨its, rv, p, hz⟩ := I.tuple hq
    obtain ⟨f0, f1, f2, f3, f4, f5⟩ := hf it (by simp)
    have hl := rv.length
    have hT : s.TypeIs (.ref e) "enumerate" := ⟨_, he, rfl⟩
    unfold pyNext
    refine wpAny_bind (wpAny_attempt (wpAny_callSpecial?_slot (name := Str.ofString "__next__") hT PySem.F.slot_enumerate_next
      (wpAny_call_entry PySem.F.slot_enumerate_next hT PySem.F.entry_enumerate_next ?_ (PySem.F.args_enumerate_next_1 _))))
    show wpAny _ _ (field (.ref e) 2 >>= _) _ _ _
    refine wpAny_bind (wpAny_field he rfl (x := .ref it) rfl ?_)
    refine wpAny_bind (wpAny_nextOf_tuple_end (I.ok.hd hc) hit p (by simp; omega) fun h' x he' hx' => ?_)
    obtain ⟨o, ho, hc'⟩ := hx'
    refine wpAny_bind (wpAny_isInstance (T := "StopIteration") (b := true) ⟨o, ho, hc'⟩ isSubtype_stop ?_)
    exact wpAny_pure ⟨rfl, I.turned (t' := s.toks) (fun b o hb q => he' b o hb q) f0 f1 f3 f4 f5⟩
  self := fun A i s Q E st h => let ⟨⟨_, he⟩, _⟩ := st; wpAny_pyIter_enum he h

def iEnumT (K : PySem.W.Frag) (ta : TA) : TI := fun σ H R => ta σ H fun vs H1 => ∃ a xs, vs = [.ref a] ∧ SqT K H1 a xs ∧ R (IteT K a) H1
theorem pi_enumT {X : Cx} {e : Expr} {ta : TA} {p pos tpos : Pos} {elts : List Expr} {kk : Nat} (hg : Gl X "enumerate") (hm : X.mg "enumerate" = none) (ha : PA X [e] ta) (hs : starEach [e] X.env = [(false, eval e X.env)]) :
    PI X (.Tuple elts kk tpos) (.Call (.Name "enumerate" p) [e] [] pos) (iEnumT X.K ta) := by
  refine ⟨fun pins s σ H R I h => ?_⟩
  refine Call_ (ld_blt I hg hm boot_enumerate (PyProof.Rows.callWith_type1 (thn (ha.run pos pins s σ H _ I h) fun us s1 ⟨vs, H1, I1, r1, q1⟩ => ?_) hs rfl))
  obtain ⟨a, xs, ex, hq, q⟩ := q1
  subst ex
  cases r1 with
  | cons r rr =>
    cases rr
    cases r
    obtain ⟨its, rv, p', hz⟩ := I1.tuple hq
    refine dl_call_enum1 (begins_tuple a its.toArray) p' fun h' he hit hsz hk => wpAny_pyIter_enum he ?_
    have I2 : Inv X pins σ H1 { s1 with heap := h' } := I1.kept (t' := s1.toks) hk
    have ha : a < s1.heap.objs.size := by obtain ⟨o, e, _⟩ := p'; exact Heap.lt_size e
    refine ⟨s1.heap.objs.size + 1, [s1.heap.objs.size + 1, s1.heap.objs.size], _, _, H1, rfl, I2, turn_enumT a (s1.heap.objs.size + 1) s1.heap.objs.size, ⟨⟨.none, he⟩, ⟨_, hit, rfl, rfl⟩, Nat.succ_ne_self _, Nat.ne_of_lt (Nat.lt_succ_of_lt ha), Nat.ne_of_lt ha⟩, fun b hb => ?_, q⟩
    have e' : b = s1.heap.objs.size + 1 ∨ b = s1.heap.objs.size := by simpa using hb
    have hle : s1.heap.objs.size ≤ b := by
      rcases e' with z | z
      · rw [z]; exact Nat.le_add_right _ _
      · rw [z]; exact Nat.le_refl _
    exact I1.fpOk hle (I1.hok.fresh hle)

structure WkD (g : Gd) (H0 : Hp) (m0 : List Addr) (I : ItD) (J : It) : Prop where
  go : ∀ i H m h, Ext H0 m0 H m → Rel g H m h → I.guard h → i < I.items.length → J.go i H
  stop : ∀ H m h, Ext H0 m0 H m → Rel g H m h → I.guard h → J.stop I.items.length H
  yld : ∀ i H m h x H', Ext H0 m0 H m → Rel g H m h → I.guard h → J.yld i H x H' → i < I.items.length → ∃ d, I.items[i]? = some d ∧ DV g.K H' m x d ∧ Ext H m H' m ∧ Rel g H' m h
def PostI (g : Gd) (W : WX) (σ : L2.St) (H : Hp) (m : List Addr) (R : It → Hp → Prop) : Res ItD → Prop
  | .ok I h1 => ∀ H' m' J, Ext H m H' m' → Rel g H' m' h1 → WkD g H' m' I J → R J H'
  | .ex x h1 => ∀ c d H' m', Ext H m H' m' → Rel g H' m' h1 → EV g H' m' x c d → W c d σ H'
  | .bad => False
def LI (g : Gd) (W : WX) (f : Sd → Hd → Res ItD) : TI := fun σ H R => ∃ m τ h, At g σ H m τ h ∧ PostI g W σ H m R (f τ h)
theorem pi_or {X : Cx} {tg e : Expr} {w1 w2 : TI} (h1 : PI X tg e w1) (h2 : PI X tg e w2) : PI X tg e (fun σ H R => w1 σ H R ∨ w2 σ H R) :=
  ⟨fun pins s σ H R I h => h.elim (h1.run pins s σ H R I) (h2.run pins s σ H R I)⟩
theorem PI.weak {X : Cx} {tg e : Expr} {t t' : TI} (p : PI X tg e t) (w : ∀ σ H Q, t' σ H Q → t σ H Q) : PI X tg e t' := ⟨fun pins s σ H Q I h => p.run pins s σ H Q I (w _ _ _ h)⟩
section
variable {g : Gd} {H : Hp} {m : List Addr} {h : Hd} {W : WX}
theorem wk_tup {a : Addr} {xs : List V} {ds : List D} (r : Rel g H m h) (s : SqT g.K H a xs) (q : DVs g.K H m xs ds) : WkD g H m ⟨ds, []⟩ (Itt g.K a) where
  go := fun i H' m' h' x r' _ hi => ⟨xs, xs[i]'(by rw [q.length]; exact hi), (r.stay x).tup _ _ s, List.getElem?_eq_getElem _⟩
  stop := fun H' m' h' x r' _ => ⟨xs, (r.stay x).tup _ _ s, by rw [q.length]; exact Nat.le_refl _⟩
  yld := fun i H' m' h' v H2 x r' _ ⟨e, f⟩ hi => by
    subst e
    obtain ⟨d, e1, q1⟩ := q.get' (f xs ((r.stay x).tup _ _ s))
    exact ⟨d, e1, q1.stay (r.stay x), .refl, r'⟩
theorem wk_rol {a : Addr} {xs : List V} {ds : List D} (r : Rel g H m h) (s : RoL g.K H a xs) (q : DVs g.K H m xs ds) : WkD g H m ⟨ds, []⟩ (Itl g.K a) where
  go := fun i H' m' h' x r' _ hi => ⟨xs, xs[i]'(by rw [q.length]; exact hi), ((r.stay x).rol _ _ s).sq, List.getElem?_eq_getElem _⟩
  stop := fun H' m' h' x r' _ => ⟨xs, ((r.stay x).rol _ _ s).sq, by rw [q.length]; exact Nat.le_refl _⟩
  yld := fun i H' m' h' v H2 x r' _ ⟨e, f⟩ hi => by
    subst e
    obtain ⟨d, e1, q1⟩ := q.get' (f xs ((r.stay x).rol _ _ s).sq)
    exact ⟨d, e1, q1.stay (r.stay x), .refl, r'⟩
theorem wk_lst {a : Addr} {n : Nat} {ds : List D} (e : m[n]? = some a) : WkD g H m ⟨ds, [(n, ds)]⟩ (Itl g.K a) where
  go := fun i H' m' h' x r' gu hi => by
    obtain ⟨xs, q1, q2⟩ := r'.lst (x.pl e) (gu (n, ds) (by simp))
    exact ⟨xs, xs[i]'(by rw [q2.length]; exact hi), .of q1, List.getElem?_eq_getElem _⟩
  stop := fun H' m' h' x r' gu => by
    obtain ⟨xs, q1, q2⟩ := r'.lst (x.pl e) (gu (n, ds) (by simp))
    exact ⟨xs, .of q1, by rw [q2.length]; exact Nat.le_refl _⟩
  yld := fun i H' m' h' v H2 x r' gu ⟨ee, f⟩ hi => by
    subst ee
    obtain ⟨xs, q1, q2⟩ := r'.lst (x.pl e) (gu (n, ds) (by simp))
    obtain ⟨d, e1, q3⟩ := q2.get' (f xs (.of q1))
    exact ⟨d, e1, q3, .refl, r'⟩
theorem wk_rng {lo : Int} {n : Nat} : WkD g H m ⟨(List.range n).map fun (i : Nat) => .int (lo + (i : Int)), []⟩ (Itr lo n) where
  go := fun i H' m' h' x r' gu hi => by show i < n; simpa using hi
  stop := fun H' m' h' x r' gu => by show n ≤ _; simp
  yld := fun i H' m' h' v H2 x r' gu ⟨e, f⟩ hi => by
    subst e f
    have hi' : i < n := by simpa using hi
    exact ⟨.int (lo + (i : Int)), by simp [hi'], .int _, .refl, r'⟩
theorem enumD_get : ∀ (ds : List D) (k i : Nat) (d : D), ds[i]? = some d → (enumD k ds)[i]? = some (.tup [.int ((k + i : Nat) : Int), d])
  | [], _, _, _, e => by simp at e
  | x :: xs, k, 0, d, e => by simp at e; subst e; rfl
  | x :: xs, k, i + 1, d, e => by
    have := enumD_get xs (k + 1) i d (by simpa using e)
    show (enumD (k + 1) xs)[i]? = _
    rw [this]
    have e2 : k + 1 + i = k + (i + 1) := by omega
    rw [e2]
theorem enumD_len : ∀ (ds : List D) (k : Nat), (enumD k ds).length = ds.length
  | [], _ => rfl
  | x :: xs, k => congrArg (· + 1) (enumD_len xs (k + 1))
theorem newPair {H' : Hp} {m' : List Addr} {h' : Hd} {T : Addr} {i : Nat} {x : V} {d : D} (r' : Rel g H' m' h') (hT : H' T = none) (q : DV g.K H' m' x d) :
    DV g.K (upd H' T (.tup [.int (i : Nat), x])) m' (.ref T) (.tup [.int (i : Nat), d]) ∧ Ext H' m' (upd H' T (.tup [.int (i : Nat), x])) m' ∧ Rel g (upd H' T (.tup [.int (i : Nat), x])) m' h' :=
  ⟨.tup (.inl (.inl upd_same)) (.cons (.int _) (.cons (q.stay (r'.stay (.tupNew hT))) .nil)), .tupNew hT, r'.tupNew hT⟩
theorem wk_enumT {a : Addr} {xs : List V} {ds : List D} (r : Rel g H m h) (s : SqT g.K H a xs) (q : DVs g.K H m xs ds) : WkD g H m ⟨enumD 0 ds, []⟩ (IteT g.K a) where
  go := fun i H' m' h' x r' _ hi => ⟨xs, xs[i]'(by rw [q.length]; rw [enumD_len] at hi; exact hi), (r.stay x).tup _ _ s, List.getElem?_eq_getElem _⟩
  stop := fun H' m' h' x r' _ => ⟨xs, (r.stay x).tup _ _ s, by rw [q.length]; show _ ≤ (enumD 0 ds).length; rw [enumD_len]; exact Nat.le_refl _⟩
  yld := fun i H' m' h' v H2 x r' _ ⟨T, y, ev, hT, e, f⟩ hi => by
    subst ev e
    obtain ⟨d, e1, q1⟩ := q.get' (f xs ((r.stay x).tup _ _ s))
    have e2 := enumD_get ds 0 i d e1
    rw [Nat.zero_add] at e2
    exact ⟨_, e2, newPair r' hT (q1.stay (r.stay x))⟩
theorem wk_enumL {a : Addr} {n : Nat} {ds : List D} (e : m[n]? = some a) : WkD g H m ⟨enumD 0 ds, [(n, ds)]⟩ (Ite g.K a) where
  go := fun i H' m' h' x r' gu hi => by
    obtain ⟨xs, q1, q2⟩ := r'.lst (x.pl e) (gu (n, ds) (by simp))
    exact ⟨xs, xs[i]'(by rw [q2.length]; rw [enumD_len] at hi; exact hi), .of q1, List.getElem?_eq_getElem _⟩
  stop := fun H' m' h' x r' gu => by
    obtain ⟨xs, q1, q2⟩ := r'.lst (x.pl e) (gu (n, ds) (by simp))
    exact ⟨xs, .of q1, by rw [q2.length]; show _ ≤ (enumD 0 ds).length; rw [enumD_len]; exact Nat.le_refl _⟩
  yld := fun i H' m' h' v H2 x r' gu ⟨T, y, ev, hT, ee, f⟩ hi => by
    subst ev ee
    obtain ⟨xs, q1, q2⟩ := r'.lst (x.pl e) (gu (n, ds) (by simp))
    obtain ⟨d, e1, q3⟩ := q2.get' (f xs (.of q1))
    have e2 := enumD_get ds 0 i d e1
    rw [Nat.zero_add] at e2
    exact ⟨_, e2, newPair r' hT q3⟩
theorem wk_enumR {a : Addr} {xs : List V} {ds : List D} (r : Rel g H m h) (s : RoL g.K H a xs) (q : DVs g.K H m xs ds) : WkD g H m ⟨enumD 0 ds, []⟩ (Ite g.K a) where
  go := fun i H' m' h' x r' _ hi => ⟨xs, xs[i]'(by rw [q.length]; rw [enumD_len] at hi; exact hi), ((r.stay x).rol _ _ s).sq, List.getElem?_eq_getElem _⟩
  stop := fun H' m' h' x r' _ => ⟨xs, ((r.stay x).rol _ _ s).sq, by rw [q.length]; show _ ≤ (enumD 0 ds).length; rw [enumD_len]; exact Nat.le_refl _⟩
  yld := fun i H' m' h' v H2 x r' _ ⟨T, y, ev, hT, e, f⟩ hi => by
    subst ev e
    obtain ⟨d, e1, q1⟩ := q.get' (f xs ((r.stay x).rol _ _ s).sq)
    have e2 := enumD_get ds 0 i d e1
    rw [Nat.zero_add] at e2
    exact ⟨_, e2, newPair r' hT (q1.stay (r.stay x))⟩

variable {X : Cx} {tg e : Expr} {f : Fe}
theorem li_ex {σ : L2.St} {τ : Sd} {x : Exn} {h1 : Hd} {R : It → Hp → Prop} {k : D → Hd → Res ItD} (a : At g σ H m τ h) (q : f τ h = .ex x h1) (p : PostI g W σ H m R ((f τ h).bind k)) {Q : VK} : LE g W f σ H Q :=
  ⟨m, τ, h, a, by rw [q] at p ⊢; exact p⟩
theorem p_seq (hK : X.K = g.K) (he : PE X e (LE g W f)) : PI X tg e (LI g W fun τ h => (f τ h).bind fun d h1 => ofI (itSeq d h1) h1) := by
  refine PI.weak (pi_or (pi_list he) (pi_tup he)) fun σ H R ⟨m, τ, h, a, p⟩ => ?_
  dsimp only at p
  rw [hK]
  cases q : f τ h with
  | ex x h1 => exact .inl (li_ex a q p)
  | bad => rw [q] at p; exact p.elim
  | ok d h1 =>
    have p' : PostI g W σ H m R (ofI (itSeq d h1) h1) := by rw [q] at p; exact p
    cases d with
    | tup ds =>
      refine .inr ⟨m, τ, h, a, ?_⟩
      rw [q]
      intro v H' m' x r qv
      cases qv with
      | tup s t => exact ⟨_, rfl, ⟨_, s⟩, p' _ _ _ x r (wk_tup r s t)⟩
    | rol ds =>
      refine .inl ⟨m, τ, h, a, ?_⟩
      rw [q]
      intro v H' m' x r qv
      cases qv with
      | rol s t => exact ⟨_, rfl, ⟨_, s.sq⟩, p' _ _ _ x r (wk_rol r s t)⟩
    | ref n =>
      refine .inl ⟨m, τ, h, a, ?_⟩
      rw [q]
      intro v H' m' x r qv
      cases qv with
      | ref e1 =>
        simp only [itSeq] at p'
        split at p'
        · rename_i e2
          obtain ⟨xs, q1, q2⟩ := r.lst e1 e2
          exact ⟨_, rfl, ⟨xs, .of q1⟩, p' _ _ _ x r (wk_lst e1)⟩
        · exact p'.elim
    | _ => exact p'.elim
theorem p_enum {ea : Expr} {p pos tpos : Pos} {elts : List Expr} {kk : Nat} (hK : X.K = g.K) (hg : Gl X "enumerate") (hm : X.mg "enumerate" = none) (he : PE X ea (LE g W f)) (ns : notStar ea = true) :
    PI X (.Tuple elts kk tpos) (.Call (.Name "enumerate" p) [ea] [] pos) (LI g W fun τ h => (f τ h).bind fun d h1 => ofI (itEnum d h1) h1) := by
  have hs : starEach [ea] X.env = [(false, eval ea X.env)] := star_of ns
  have pa := pa_cons he pa_nil (star_of ns)
  refine PI.weak (pi_or (pi_enum hg hm pa hs) (pi_enumT hg hm pa hs)) fun σ H R ⟨m, τ, h, a, p⟩ => ?_
  dsimp only at p
  rw [hK]
  cases q : f τ h with
  | ex x h1 => exact .inl (li_ex a q p)
  | bad => rw [q] at p; exact p.elim
  | ok d h1 =>
    have p' : PostI g W σ H m R (ofI (itEnum d h1) h1) := by rw [q] at p; exact p
    cases d with
    | tup ds =>
      refine .inr ⟨m, τ, h, a, ?_⟩
      rw [q]
      intro v H' m' x r qv
      cases qv with
      | tup s t => exact ⟨_, _, rfl, s, p' _ _ _ x r (wk_enumT r s t)⟩
    | rol ds =>
      refine .inl ⟨m, τ, h, a, ?_⟩
      rw [q]
      intro v H' m' x r qv
      cases qv with
      | rol s t => exact ⟨_, _, rfl, s.sq, p' _ _ _ x r (wk_enumR r s t)⟩
    | ref n =>
      refine .inl ⟨m, τ, h, a, ?_⟩
      rw [q]
      intro v H' m' x r qv
      cases qv with
      | ref e1 =>
        simp only [itEnum, itSeq] at p'
        split at p'
        · rename_i e2
          obtain ⟨xs, q1, q2⟩ := r.lst e1 e2
          exact ⟨_, xs, rfl, .of q1, p' _ _ _ x r (wk_enumL e1)⟩
        · exact p'.elim
    | _ => exact p'.elim
theorem p_rng1 {ea : Expr} {p pos : Pos} (hg : Gl X "range") (hm : X.mg "range" = none) (he : PE X ea (LE g W f)) (ns : notStar ea = true) :
    PI X tg (.Call (.Name "range" p) [ea] [] pos) (LI g W fun τ h => (f τ h).bind fun d h1 => match d with | .int j => ofI (itRng 0 j) h1 | _ => .bad) := by
  have hs : starEach [ea] X.env = [(false, eval ea X.env)] := star_of ns
  refine PI.weak (pi_range1 hg hm (pa_cons he pa_nil (star_of ns)) hs) fun σ H R ⟨m, τ, h, a, p⟩ => ?_
  refine ⟨m, τ, h, a, ?_⟩
  dsimp only at p
  cases q : f τ h with
  | ex x h1 => rw [q] at p; exact p
  | bad => rw [q] at p; exact p.elim
  | ok d h1 =>
    rw [q] at p
    intro v H' m' x r qv
    cases qv with
    | int j =>
      have p' : PostI g W σ H m R (ofI (itRng 0 j) h1) := p
      simp only [itRng] at p'
      split at p'
      · rename_i hz
        refine ⟨j, rfl, hz.2.2.1, hz.2.2.2, ?_⟩
        have e0 : (j - 0).toNat = j.toNat := by simp
        rw [e0] at p'
        exact p' _ _ _ x r wk_rng
      · exact p'.elim
    | _ => exact p.elim
theorem p_rng2 {f' : Fe} {ea eb : Expr} {p pos : Pos} (hg : Gl X "range") (hm : X.mg "range" = none) (he : PE X ea (LE g W f)) (hb : PE X eb (LE g W f')) (ns : notStar ea = true) (ns' : notStar eb = true) :
    PI X tg (.Call (.Name "range" p) [ea, eb] [] pos) (LI g W fun τ h => (f τ h).bind fun d h1 => (f' τ h1).bind fun e h2 => match d, e with | .int i, .int j => ofI (itRng i j) h2 | _, _ => .bad) := by
  have hs2 : starEach [eb] X.env = [(false, eval eb X.env)] := star_of ns'
  have hs : starEach [ea, eb] X.env = [(false, eval ea X.env), (false, eval eb X.env)] := by rw [star_of ns, hs2]
  refine PI.weak (pi_range2 hg hm (pa_cons he (pa_cons hb pa_nil (star_of ns')) (star_of ns)) hs hs2) fun σ H R ⟨m, τ, h, a, p⟩ => ?_
  refine ⟨m, τ, h, a, ?_⟩
  dsimp only at p
  cases q : f τ h with
  | ex x h1 => rw [q] at p; exact p
  | bad => rw [q] at p; exact p.elim
  | ok d h1 =>
    rw [q] at p
    intro v H' m' x r qv
    simp only [Res.bind_ok] at p
    refine ⟨m', τ, h1, a.ext x r, ?_⟩
    cases q2 : f' τ h1 with
    | ex y h2 => rw [q2] at p; exact fun c d H'' m'' x' => p c d H'' m'' (x.trans x')
    | bad => rw [q2] at p; exact p.elim
    | ok d2 h2 =>
      rw [q2] at p
      intro v2 H2 m2 x2 r2 qv2
      cases qv with
      | int i => cases qv2 with
        | int j =>
          have p' : PostI g W σ H m R (ofI (itRng i j) h2) := p
          simp only [itRng] at p'
          split at p'
          · rename_i hz
            exact ⟨i, j, rfl, hz, p' _ _ _ (x.trans x2) r2 wk_rng⟩
          · exact p'.elim
        | _ => exact p.elim
      | _ => exact p.elim
end
end DL

set_option Elab.async false
set_option linter.all false
set_option maxRecDepth 100000
namespace DL
open PySem PySem.Spec PyProof.Rows L2

section
variable {g : Gd} {H H' H1 : Hp} {m m' m1 : List Addr} {h : Hd} {W : WX} {σ : L2.St} {τ : Sd}
theorem Ext.out (x : Ext H m H' m') {a : Addr} {o : HO} (n : a ∉ m) (e : H a = some o) (t : ∀ ps, o ≠ .tbl ps) : a ∉ m' ∧ H' a = some o := by
  refine ⟨fun z => ?_, x.keep a o n e t⟩
  obtain ⟨e', rfl, p⟩ := x.pre
  rcases List.mem_append.mp z with z | z
  · exact n z
  · obtain ⟨ps, q⟩ := (p a z).1 o e
    exact t ps q
theorem Rel.add {a : Addr} {o : OD} (r : Rel g H m h) (n : a ∉ m) (hu : OV g H (m ++ [a]) a o) : Rel g H (m ++ [a]) (h ++ [o]) where
  len := by simp [r.len]
  nd := List.nodup_append.mpr ⟨r.nd, by simp, fun x hx b hb => by rw [List.mem_singleton.mp hb]; intro e; subst e; exact n hx⟩
  obj := fun i x o' e1 e2 => by
    have st : Stay g.K H m H (m ++ [a]) := r.stayOf (fun _ _ _ e _ => e) fun i b e => by
      obtain ⟨q, _⟩ := List.getElem?_eq_some_iff.mp e
      rw [List.getElem?_append_left q]; exact e
    by_cases hn : i < m.length
    · rw [List.getElem?_append_left hn] at e1
      rw [List.getElem?_append_left (r.len ▸ hn)] at e2
      exact (r.obj i x o' e1 e2).stay st rfl
    · have hl : i = m.length := by
        obtain ⟨q, _⟩ := List.getElem?_eq_some_iff.mp e1
        simp at q; omega
      subst hl
      simp at e1
      rw [r.len] at e2
      simp at e2
      subst e1 e2
      exact hu
  tabs := r.tabs
/-- an untracked place is written -/
theorem Stay.other {K : PySem.W.Frag} {a : Addr} {xs ys : List V} (e : H a = some (.lst xs)) : Stay K H m (upd H a (.lst ys)) m where
  tup := fun b zs q => by
    rcases q with (q | ⟨o, q⟩) | q
    · exact .inl (.inl (by rw [upd_ne (ne_of q e (by intro z; cases z))]; exact q))
    · exact .inl (.inr ⟨o, by rw [upd_ne (ne_of q e (by intro z; cases z))]; exact q⟩)
    · exact .inr q
  rol := fun b zs q => by
    rcases q with ⟨o, q⟩ | q
    · exact .inl ⟨o, by rw [upd_ne (ne_of q e (by intro z; cases z))]; exact q⟩
    · exact .inr q
  pl := fun _ _ e => e
theorem Rel.other {a : Addr} {xs ys : List V} (r : Rel g H m h) (n : a ∉ m) (e : H a = some (.lst xs)) : Rel g (upd H a (.lst ys)) m h where
  len := r.len
  nd := r.nd
  obj := fun i b o e1 e2 => (r.obj i b o e1 e2).stay (.other e) (upd_ne fun z => n (z ▸ List.mem_of_getElem? e1))
  tabs := tabs_upd r.tabs (fun _ z => by rw [e] at z; cases z) fun _ z => by rw [e] at z; cases z

theorem wipe_set {i : Nat} {x : Option V} : ∀ {vs : List Nat} {σ : L2.St}, i ∈ vs → wipe (σ.set i x) vs = wipe σ vs
  | [], _, h => nomatch h
  | v :: vs, σ, h => by
    unfold wipe
    by_cases hi : i ∈ vs
    · rw [wipe_set hi]
    · have e : i = v := by
        rcases List.mem_cons.mp h with e | e
        · exact e
        · exact absurd e hi
      subst e
      have : ∀ {vs : List Nat} {σ : L2.St}, i ∉ vs → wipe (σ.set i x) vs = (wipe σ vs).set i x := by
        intro vs
        induction vs with
        | nil => intro σ _; rfl
        | cons w ws ih =>
          intro σ hn
          unfold wipe
          rw [ih (fun z => hn (List.mem_cons_of_mem _ z)), List.set_comm _ _ (fun z => hn (by rw [z]; exact List.mem_cons_self))]
      rw [this hi, List.set_set]
theorem wipeD_len (τ : Sd) : ∀ vs : List Nat, (wipeD τ vs).length = τ.length
  | [] => rfl
  | v :: vs => by unfold wipeD; rw [List.length_set, wipeD_len τ vs]
theorem wipeD_none {τ : Sd} {i : Nat} {d : D} : ∀ {vs : List Nat}, (wipeD τ vs)[i]? = some (some d) → τ[i]? = some (some d) ∧ i ∉ vs
  | [], h => ⟨h, by simp⟩
  | v :: vs, h => by
    unfold wipeD at h
    by_cases hi : v = i
    · subst hi
      by_cases hv : v < (wipeD τ vs).length
      · rw [List.getElem?_set_self hv] at h; cases h
      · rw [List.getElem?_eq_none (by simpa using hv)] at h; cases h
    · rw [List.getElem?_set_ne hi] at h
      obtain ⟨h1, h2⟩ := wipeD_none h
      exact ⟨h1, by simp only [List.mem_cons, not_or]; exact ⟨fun e => hi e.symm, h2⟩⟩
theorem wipe_idem (σ : L2.St) : ∀ vs : List Nat, wipe (wipe σ vs) vs = wipe σ vs := by
  have go : ∀ (ws vs : List Nat) (σ : L2.St), (∀ i ∈ ws, i ∈ vs) → wipe (wipe σ ws) vs = wipe σ vs := by
    intro ws
    induction ws with
    | nil => intro vs σ _; rfl
    | cons w ws ih =>
      intro vs σ h
      show wipe ((wipe σ ws).set w none) vs = _
      rw [wipe_set (h w List.mem_cons_self), ih vs σ fun i hi => h i (List.mem_cons_of_mem _ hi)]
  exact fun vs => go vs vs σ fun _ hi => hi
theorem wipe_out' {σ : L2.St} {i : Nat} : ∀ {vs : List Nat}, i ∉ vs → (wipe σ vs)[i]? = σ[i]?
  | [], _ => rfl
  | v :: vs, h => by
    unfold wipe
    rw [List.getElem?_set_ne (fun z => h (by rw [z]; exact List.mem_cons_self))]
    exact wipe_out' fun z => h (List.mem_cons_of_mem _ z)
theorem SV.wipe {K : PySem.W.Frag} (s : SV K H m σ τ) (vs : List Nat) : SV K H m (wipe σ vs) (wipeD τ vs) := by
  refine ⟨by rw [wipe_length, wipeD_len]; exact s.1, fun i d e => ?_⟩
  obtain ⟨e1, e2⟩ := wipeD_none e
  obtain ⟨v, q1, q2⟩ := s.2 i d e1
  exact ⟨v, by rw [wipe_out' e2]; exact q1, q2⟩
theorem SV.set {K : PySem.W.Frag} (s : SV K H m σ τ) (i : Nat) {v : V} {d : D} (r : DV K H m v d) : SV K H m (σ.set i (some v)) (τ.set i (some d)) := by
  refine ⟨by simp [s.1], fun j e q => ?_⟩
  by_cases hj : i = j
  · subst hj
    by_cases hl : i < τ.length
    · rw [List.getElem?_set_self hl] at q
      cases q
      exact ⟨v, List.getElem?_set_self (by rw [s.1]; exact hl), r⟩
    · rw [List.getElem?_eq_none (by simpa using hl)] at q; cases q
  · rw [List.getElem?_set_ne hj] at q ⊢
    exact s.2 j e q

def gNs : List Nat → TGs
  | [] => gNil
  | i :: is => gCons (gName i) (gNs is)
def gT (K : PySem.W.Frag) : ITg → TG
  | .name i => gName i
  | .tup is => gTup K is.length (gNs is)
theorem gNs_ok : ∀ (is : List Nat) {xs : List V} {ds : List D} {σ : L2.St} {τ : Sd}, xs.length = is.length → DVs g.K H m xs ds → SV g.K H m σ τ → ∀ Q : L2.St → Hp → Prop,
    (∀ σ', SV g.K H m σ' (setNs is ds τ) → (∀ vs, (∀ i ∈ is, i ∈ vs) → wipe σ' vs = wipe σ vs) → Q σ' H) → gNs is xs σ H Q
  | [], xs, ds, σ, τ, hl, q, s, Q, hq => by
    cases q with
    | nil => exact ⟨rfl, hq σ s fun _ _ => rfl⟩
    | cons _ _ => cases hl
  | i :: is, xs, ds, σ, τ, hl, q, s, Q, hq => by
    cases q with
    | nil => cases hl
    | cons r t =>
      refine ⟨_, _, rfl, ?_⟩
      refine gNs_ok is (by simpa using hl) t (s.set i r) Q fun σ' s' w => hq σ' s' fun vs hv => ?_
      rw [w vs (fun j hj => hv j (List.mem_cons_of_mem _ hj)), wipe_set (hv i List.mem_cons_self)]
theorem gT_ok {t : ITg} {v : V} {d : D} {τ' : Sd} (q : DV g.K H m v d) (s : SV g.K H m σ τ) (e : setTg t d τ = some τ') (Q : L2.St → Hp → Prop)
    (hq : ∀ σ', SV g.K H m σ' τ' → (∀ vs, tgIn t vs = true → wipe σ' vs = wipe σ vs) → Q σ' H) : gT g.K t v σ H Q := by
  cases t with
  | name i =>
    cases e
    exact hq _ (s.set i q) fun vs hv => wipe_set (by simpa [tgIn] using hv)
  | tup is =>
    cases q with
    | tup a b =>
      simp only [setTg] at e
      split at e
      · rename_i hl
        cases e
        refine ⟨_, _, rfl, a, by rw [b.length]; exact hl, ?_⟩
        refine gNs_ok is (by rw [b.length]; exact hl) b s Q fun σ' s' w => hq σ' s' fun vs hv => w vs fun i hi => ?_
        simp only [tgIn, List.all_eq_true] at hv
        simpa using hv i hi
      · cases e
    | _ => cases e
end

section
variable {X : Cx} {c : Ck} {g : Gd} {C : Tab} {W : WX} {k : Nat}
theorem loc_of (ok : XOk X c g C W k) {x : Str} (h : locB c x = true) : Loc X.env.scope x ∧ (X.fn x = true ∨ X.env.scope.names.lookup x = some .local) := by
  unfold locB at h
  rw [← ok.sc] at h
  split at h
  · exact ⟨.inl (by assumption), .inr (by assumption)⟩
  · exact ⟨.inr (by assumption), .inl (ok.cells x h)⟩
  · cases h
theorem mNm_of {i : Nat} {e : Expr} (h : mNm c i e = true) : ∃ x pos, e = .Name x pos ∧ c.N[i]? = some x ∧ locB c x = true := by
  unfold mNm at h
  split at h
  · obtain ⟨h1, h2⟩ := and3 h
    exact ⟨_, _, rfl, of_decide_eq_true h1, h2⟩
  · cases h
theorem p_nm (ok : XOk X c g C W k) {i : Nat} {e : Expr} (h : mNm c i e = true) : PG X e (gName i) := by
  obtain ⟨x, pos, rfl, h1, h2⟩ := mNm_of h
  obtain ⟨l1, l2⟩ := loc_of ok h2
  exact pg_name ok.nd (by rw [ok.N]; exact h1) l1 l2
theorem mNms_len : ∀ {is : List Nat} {es : List Expr}, mNms c is es = true → is.length = es.length
  | [], [], _ => rfl
  | [], _ :: _, h => by cases h
  | _ :: _, [], h => by cases h
  | i :: is, e :: es, h => congrArg (· + 1) (mNms_len (and3 h).2)
theorem ass_nm {i : Nat} {e : Expr} {es : List Expr} {env : Env} (h : mNm c i e = true) : assignEach (e :: es) env = (false, assign e env) :: assignEach es env := by
  obtain ⟨x, pos, rfl, _, _⟩ := mNm_of h
  rfl
theorem p_nms (ok : XOk X c g C W k) : ∀ {is : List Nat} {es : List Expr}, mNms c is es = true → PGs X es (gNs is)
  | [], [], _ => pgs_nil
  | [], _ :: _, h => by cases h
  | _ :: _, [], h => by cases h
  | i :: is, e :: es, h => pgs_cons (p_nm ok (and3 h).1) (p_nms ok (and3 h).2) (by rw [ass_nm (and3 h).1]; rfl)
theorem ass_nms {env : Env} : ∀ {is : List Nat} {es : List Expr}, mNms c is es = true → (assignEach es env).length = is.length ∧ (assignEach es env).findIdx? (·.1) = none
  | [], [], _ => ⟨rfl, rfl⟩
  | [], _ :: _, h => by cases h
  | _ :: _, [], h => by cases h
  | i :: is, e :: es, h => by
    obtain ⟨q1, q2⟩ := ass_nms (env := env) (and3 h).2
    rw [ass_nm (and3 h).1]
    refine ⟨by simp [q1], ?_⟩
    rw [List.findIdx?_cons]
    simp [q2]
theorem p_tg (ok : XOk X c g C W k) {t : ITg} {e : Expr} (h : mTg c t e = true) : PG X e (gT g.K t) := by
  cases t with
  | name i => exact p_nm ok h
  | tup is =>
    unfold mTg at h
    split at h
    · cases ‹ITg.tup is = ITg.name _›
    · rename_i is' es kk pos heq
      cases heq
      obtain ⟨q1, q2⟩ := ass_nms (env := X.env) h
      have := pg_tup (k := kk) (pos := pos) ok.calm (p_nms ok h) q1 q2
      rw [ok.K] at this
      exact this
    · cases h

theorem blk_ok (ok : XOk X c g C W k) {scope : Scope} {own : List (Str × Nat)} (b : BlkOk c.N c.sc scope own) (s : Shared) (H : Hp) (Ca : Addr) (cl : List (Str × Addr)) (fp : List Addr) :
    XOk (X.blk s H scope (compEnvC scope cl Ca X.env) fp) (c.blk scope) g C (fun _ _ _ _ => False) k where
  N := ok.N
  nd := ok.nd
  sc := by
    show (relS scope X.env.scope).names = (relSN scope c.sc).names
    unfold relS relSN
    rw [ok.kind, ok.ckind, ok.sc]
  kind := b.kind
  ckind := b.kind
  K := ok.K
  calm := ok.calm
  cells := fun x hx => by
    show (scope.names.lookup x == some .cell) = true
    have hx' : x ∈ (scope.names.filterMap fun (n, k) => if k == .cell then some n else none) := by simpa [Ck.blk] using hx
    obtain ⟨⟨n, k'⟩, hm, he⟩ := List.mem_filterMap.mp hx'
    by_cases q : (k' == NameKind.cell) = true
    · simp only [q, if_true] at he
      cases he
      have q' : k' = .cell := by simpa using q
      subst q'
      rw [b.uniq _ hm]
      rfl
    · simp only [q] at he
      cases he
  free := ok.free
  fns := ok.fns
  room := ok.room
  lam := fun z => nomatch z
  takes := takes0
  own := PassesOwn.never

def PTsO (o : Option Ft) (g : Gd) : TT := match o with | none => tYes | some f => LT g (fun _ _ _ _ => False) f
theorem compL_stop {I : ItD} {t : ITg} {co : Option Ft} {e : Fe} {τ : Sd} {h h2 : Hd} {ds : List D} (q : compL I t co e τ [] h = .ok ds h2) : I.guard h ∧ ds = [] ∧ h2 = h := by
  unfold compL at q
  by_cases gu : I.guard h
  · rw [if_pos gu] at q; cases q; exact ⟨gu, rfl, rfl⟩
  · rw [if_neg gu] at q; cases q
theorem compL_go {I : ItD} {t : ITg} {co : Option Ft} {e : Fe} {τ : Sd} {h h2 : Hd} {d : D} {r ds : List D} (q : compL I t co e τ (d :: r) h = .ok ds h2) : I.guard h ∧ ∃ τ1, setTg t d τ = some τ1 ∧ ∃ b hb,
    testO co τ1 h = .ok b hb ∧ ((b = true ∧ ∃ y hy rest, e τ1 hb = .ok y hy ∧ compL I t co e τ r hy = .ok rest h2 ∧ ds = y :: rest) ∨ (b = false ∧ compL I t co e τ r hb = .ok ds h2)) := by
  rw [compL] at q
  by_cases gu : I.guard h
  · rw [if_pos gu] at q
    refine ⟨gu, ?_⟩
    cases q1 : setTg t d τ with
    | none => rw [q1] at q; cases q
    | some τ1 =>
      rw [q1] at q
      refine ⟨τ1, rfl, ?_⟩
      dsimp only at q
      cases q2 : testO co τ1 h with
      | ex x hx => rw [q2] at q; cases q
      | bad => rw [q2] at q; cases q
      | ok b hb =>
        rw [q2] at q
        refine ⟨b, hb, rfl, ?_⟩
        cases b with
        | false => exact .inr ⟨rfl, q⟩
        | true =>
          refine .inl ⟨rfl, ?_⟩
          have q' : (e τ1 hb).bind (fun x h2 => (compL I t co e τ r h2).bind fun xs h3 => .ok (x :: xs) h3) = .ok ds h2 := q
          cases q3 : e τ1 hb with
          | ex x hx => rw [q3] at q'; cases q'
          | bad => rw [q3] at q'; cases q'
          | ok y hy =>
            rw [q3, Res.bind_ok] at q'
            cases q4 : compL I t co e τ r hy with
            | ex x hx => rw [q4] at q'; cases q'
            | bad => rw [q4] at q'; cases q'
            | ok rest h3 =>
              rw [q4, Res.bind_ok] at q'
              cases q'
              exact ⟨y, hy, rest, rfl, q4, rfl⟩
  · rw [if_neg gu] at q; cases q
theorem noEx_ok {α : Type} {r : Res α} {a : α} {h : Hd} (q : noEx r = .ok a h) : r = .ok a h := by
  cases r with
  | ok b h' => exact q
  | ex x h' => cases q
  | bad => cases q
theorem noEx_ex {α : Type} {r : Res α} {x : Exn} {h : Hd} (q : noEx r = .ex x h) : False := by
  cases r with
  | ok b h' => cases q
  | ex x h' => cases q
  | bad => cases q
/-- the reading of a comprehension follows from its meaning -/
theorem lc_ok {fi : Sd → Hd → Res ItD} {t : ITg} {co : Option Ft} {e : Fe} {vs : List Nat} {σ : L2.St} {H : Hp} {Q : VK} (hv : tgIn t vs = true)
    (p : LE g W (fun τ h => (fi τ h).bind fun I h1 => (noEx (compL I t co e (wipeD τ vs) I.items h1)).bind fun ds h2 => if ds.length ≤ sizeLine then .ok (.ref h2.length) (h2 ++ [.lst ds]) else .bad) σ H Q) :
    tLc (LI g W fi) (gT g.K t) (PTsO co g) (LE g (fun _ _ _ _ => False) e) vs σ H Q := by
  obtain ⟨m, τ, h, a, p⟩ := p
  refine ⟨m, τ, h, a, ?_⟩
  dsimp only at p
  cases qi : fi τ h with
  | ex x h1 => rw [qi] at p; exact p
  | bad => rw [qi] at p; exact p.elim
  | ok I h1 =>
    rw [qi, Res.bind_ok] at p
    intro H1 m1 J x1 r1 wk Da hD
    cases qc : noEx (compL I t co e (wipeD τ vs) I.items h1) with
    | ex x h1 =>
      exact (noEx_ex qc).elim
    | bad => rw [qc] at p; exact p.elim
    | ok ds h2 =>
      rw [qc, Res.bind_ok] at p
      have qc := noEx_ok qc
      by_cases hz : ds.length ≤ sizeLine
      · rw [if_pos hz] at p
        have nD : Da ∉ m1 := r1.notin hD
        -- the invariant
        let Iv : Nat → Hp → Prop := fun i Hc => ∃ mc hc acc accd rest, Ext H1 m1 Hc mc ∧ Rel g Hc mc hc ∧ Da ∉ mc ∧ Hc Da = some (.lst acc) ∧ DVs g.K Hc mc acc accd ∧ compL I t co e (wipeD τ vs) (I.items.drop i) hc = .ok rest h2 ∧ accd ++ rest = ds
        refine ⟨fun i k Hc => k = I.items.length - i ∧ i ≤ I.items.length ∧ Iv i Hc, ⟨I.items.length, by simp, Nat.zero_le _, m1, h1, [], [], ds, .tupNew hD, r1.tupNew hD, nD, upd_same, .nil, qc, rfl⟩, ?_⟩
        rintro i k Hc ⟨rfl, hi, mc, hc, acc, accd, rest, xc, rc, nc, eD, qa, qr, qe⟩
        by_cases hlt : i < I.items.length
        · -- a turn
          have ed : I.items.drop i = I.items[i] :: I.items.drop (i + 1) := List.drop_eq_getElem_cons hlt
          rw [ed] at qr
          obtain ⟨gu, τ1, et, b, hb, eb, tail⟩ := compL_go qr
          refine .inr ⟨wk.go i Hc mc hc xc rc gu hlt, Iv (i + 1), fun H' p' => ⟨I.items.length - (i + 1), by omega, rfl, hlt, p'⟩, fun x H' y => ?_⟩
          obtain ⟨d, e1, qd, x', r'⟩ := wk.yld i Hc mc hc x H' xc rc gu y hlt
          rw [List.getElem?_eq_getElem hlt] at e1
          cases e1
          have nD' := x'.out nc eD (fun _ z => nomatch z)
          have sv : SV g.K H' mc (wipe σ vs) (wipeD τ vs) := (((a.sv.stay (a.rel.stay x1)).stay (r1.stay xc)).stay (rc.stay x')).wipe vs
          refine gT_ok qd sv et _ fun σ2 s2 w2 => ⟨by rw [w2 vs hv]; exact wipe_idem _ _, ?_⟩
          have a2 : At g σ2 H' mc τ1 hc := ⟨r', s2⟩
          -- the test
          have test : ∀ Q2 : Bool → Hp → Prop, (∀ H3 m3, Ext H' mc H3 m3 → Rel g H3 m3 hb → Q2 b H3) → PTsO co g σ2 H' Q2 := fun Q2 hq => by
            cases co with
            | none =>
              have eb' : Res.ok true hc = .ok b hb := eb
              cases eb'
              exact hq H' mc .refl r'
            | some f =>
              have eb' : f τ1 hc = .ok b hb := eb
              refine ⟨mc, τ1, hc, a2, ?_⟩
              rw [eb']
              intro v H3 m3 x3 r3 ev
              cases (show v = b from ev)
              exact hq H3 m3 x3 r3
          refine test _ fun H3 m3 x3 r3 => ?_
          have nD3 := x3.out nD'.1 nD'.2 (fun _ z => nomatch z)
          have xx3 : Ext H1 m1 H3 m3 := (xc.trans x').trans x3
          rcases tail with ⟨rfl, y2, hy, rest', ey, er, rfl⟩ | ⟨rfl, er⟩
          · rw [if_pos rfl]
            refine ⟨m3, τ1, hb, a2.ext x3 r3, ?_⟩
            rw [ey]
            intro v H4 m4 x4 r4 qv
            have nD4 := x4.out nD3.1 nD3.2 (fun _ z => nomatch z)
            have stq : DVs g.K H4 m4 acc accd := ((qa.stay (rc.stay x')).stay (r'.stay x3)).stay (r3.stay x4)
            have hlen : acc.length < sizeLine := by
              rw [qa.length]
              rw [← qe, List.length_append, List.length_cons] at hz
              omega
            refine ⟨acc, nD4.2, hlen, m4, hy, acc ++ [v], accd ++ [y2], rest', ?_, r4.other nD4.1 nD4.2, nD4.1, upd_same, (stq.append (.cons qv .nil)).stay (.other nD4.2), er, by simpa using qe⟩
            have xx4 := xx3.trans x4
            exact ⟨xx4.pre, fun b o nb eo t => by rw [upd_ne (ne_of_none eo hD)]; exact xx4.keep b o nb eo t⟩
          · rw [if_neg Bool.false_ne_true]
            exact ⟨m3, hb, acc, accd, rest, xx3, r3, nD3.1, nD3.2, (qa.stay (rc.stay x')).stay (r'.stay x3), er, qe⟩
        · -- the end
          have ei : i = I.items.length := by omega
          subst ei
          rw [List.drop_length] at qr
          obtain ⟨gu, rfl, rfl⟩ := compL_stop qr
          refine .inl ⟨wk.stop Hc mc h2 xc rc gu, ?_⟩
          rw [List.append_nil] at qe
          subst qe
          have rA : Rel g Hc (mc ++ [Da]) (h2 ++ [.lst accd]) := rc.add nc ⟨acc, eD, qa.stay (rc.stayOf (fun _ _ _ e _ => e) fun i b e => by
            obtain ⟨q, _⟩ := List.getElem?_eq_some_iff.mp e
            rw [List.getElem?_append_left q]; exact e)⟩
          refine p (.ref Da) Hc (mc ++ [Da]) ?_ rA (.ref (by rw [← rc.len]; simp))
          refine x1.trans ?_
          obtain ⟨e', rfl, pe⟩ := xc.pre
          refine ⟨⟨e' ++ [Da], by simp, fun b hb => ?_⟩, xc.keep⟩
          rcases List.mem_append.mp hb with hb | hb
          · exact pe b hb
          · rw [List.mem_singleton.mp hb]; exact ⟨fun o e => by (rw [hD] at e; cases e), nD⟩
      · rw [if_neg hz] at p; exact p.elim
end
end DL

set_option Elab.async false
set_option linter.all false
set_option maxRecDepth 100000
namespace DL
open PySem PySem.Spec PyProof.Rows L2
section
variable {X : Cx} {c : Ck} {g : Gd} {C : Tab} {W : WX}
theorem isLst_of {H : Hp} {m : List Addr} {h : Hd} {v : V} {d : D} (r : Rel g H m h) (q : DV g.K H m v d) (z : isLst h d = true) : ∃ a xs, v = .ref a ∧ H a = some (.lst xs) := by
  cases q with
  | ref e =>
    simp only [isLst] at z
    split at z
    · obtain ⟨xs, q1, _⟩ := r.lst e (by assumption)
      exact ⟨_, xs, rfl, q1⟩
    · cases z
  | _ => cases z
theorem fold_of {e : Expr} (n : notSet e = true) {env : Env} : ∀ x, foldedSetIterable e env x = pure x := by
  intro x
  cases e <;> first | rfl | cases n
theorem mI_notSet {c : Ck} {it : IIt} {tg x : Expr} (h : mI c it tg x = true) : notSet x = true := by
  cases it with
  | seq e => unfold mI at h; exact (and3 h).1
  | rng1 e => unfold mI at h; split at h <;> first | rfl | cases h
  | rng2 a b => unfold mI at h; split at h <;> first | rfl | cases h
  | enum e =>
    unfold mI at h
    have h := (and3 h).2
    split at h <;> first | rfl | cases h
mutual
theorem sE : ∀ (ie : IE) (e : Expr) {X : Cx} {c : Ck} {W : WX} {k : Nat}, mE c ie e = true → XOk X c g C W k → PE X e (LE g W (evP C ie).1) ∧ PT X e (LT g W (evP C ie).2)
  | .var i, e, X, c, W, k, hm, ok => by
    unfold mE at hm
    split at hm
    · rename_i x pos
      obtain ⟨hm, h3⟩ := and3 hm
      obtain ⟨h1, h2⟩ := and3 hm
      obtain ⟨d1, d2, d3⟩ := dbg_of h3
      refine both_v ok (PE.weak (pe_var (i := i) (by rw [ok.N]; exact of_decide_eq_true h1) (vis_of ok.sc h2) d1 d2) fun σ H Q ⟨m, τ, h, a, p⟩ => ?_) rfl
      cases q : τ[i]? with
      | none => simp only [evP, mkV, q] at p; exact p.elim
      | some o =>
        cases o with
        | none => simp only [evP, mkV, q] at p; exact p.elim
        | some d =>
          simp only [evP, mkV, q] at p
          obtain ⟨v, e1, r⟩ := a.sv.2 i d q
          exact ⟨v, e1, p.ok a r⟩
    · cases hm
  | .int i, e, X, c, W, k, hm, ok => by
    unfold mE at hm
    split at hm
    · cases of_decide_eq_true hm
      exact both_v ok (PE.weak pe_int fun σ H Q ⟨m, τ, h, a, p⟩ => p.ok a (.int _)) rfl
    · cases hm
  | .str x, e, X, c, W, k, hm, ok => by
    unfold mE at hm
    split at hm
    · cases seq_of hm
      exact both_v ok (PE.weak pe_str fun σ H Q ⟨m, τ, h, a, p⟩ => p.ok a (.str _)) rfl
    · cases hm
  | .bl b, e, X, c, W, k, hm, ok => by
    unfold mE at hm
    split at hm
    · cases (beq_iff_eq.mp hm)
      exact both_v ok (PE.weak pe_bl fun σ H Q ⟨m, τ, h, a, p⟩ => p.ok a (.bl _)) rfl
    · cases hm
  | .non, e, X, c, W, k, hm, ok => by
    unfold mE at hm
    split at hm
    · exact both_v ok (PE.weak pe_non fun σ H Q ⟨m, τ, h, a, p⟩ => p.ok a .non) rfl
    · cases hm
  | .op2 o a b, e, X, c, W, k, hm, ok => by
    unfold mE at hm
    split at hm
    · obtain ⟨hm, h3⟩ := and3 hm
      obtain ⟨h1, h2⟩ := and3 hm
      cases of_decide_eq_true h1
      exact both_v ok (PE.weak (pe_op (o_op2 ok.K o) (sE a _ h2 ok).1 (sE b _ h3 ok).1) fun σ H Q p => LE.two p) rfl
    · cases hm
  | .cmp o a b, e, X, c, W, k, hm, ok => by
    unfold mE at hm
    split at hm
    · obtain ⟨hm, h4⟩ := and3 hm
      obtain ⟨hm, h3⟩ := and3 hm
      obtain ⟨h1, h2⟩ := and3 hm
      cases of_decide_eq_true h1
      have ha := (sE a _ h2 ok).1
      have hb := (sE b _ h3 ok).1
      have ho := o_cmp2 (g := g) ok.K ok.room.units o
      refine ⟨PE.weak (pe_cmpR ho ha hb (behind_of h4)) fun σ H Q p => LE.two p, PT.weak (pt_cmpR ho ha hb (behind_of h4)) fun σ H Q ⟨m, τ, h, a', p⟩ => ?_⟩
      refine LE.two (g := g) (W := W) ?_
      refine (LE.bd (k := fun d _ h1 => match d with | .bl k => Res.ok k h1 | _ => .bad) a' p).mono fun x H1 ⟨m1, τ1, h1, d1, a1, r1, p1⟩ => ?_
      cases r1 with
      | bl k => exact ⟨k, rfl, p1.ok a1 rfl⟩
      | _ => exact p1.elim
    · cases hm
  | .neg a, e, X, c, W, k, hm, ok => by
    unfold mE at hm
    split at hm
    · exact both_v ok (PE.weak (pe_un u_neg (sE a _ hm ok).1) fun σ H Q p => LE.one p) rfl
    · cases hm
  | .nt a, e, X, c, W, k, hm, ok => by
    unfold mE at hm
    split at hm
    · obtain ⟨h1, h2⟩ := sE a _ hm ok
      refine ⟨PE.weak (pe_not h1) fun σ H Q ⟨m, τ, h, a', p⟩ => ?_, PT.weak (pt_not h2) fun σ H Q ⟨m, τ, h, a', p⟩ => ?_⟩
      · have p' : Post g W σ H m (DV g.K) Q (((evP C a).1 τ h).bind fun d h1 => match d with | .bl k => .ok (.bl !k) h1 | _ => .bad) := by
          have e1 : (bolR ((evP C a).1 τ h)).bind (fun c h1 => Res.ok (D.bl !c) h1) = ((evP C a).1 τ h).bind fun d h1 => match d with | .bl k => .ok (.bl !k) h1 | _ => .bad := by
            unfold bolR
            cases (evP C a).1 τ h with
            | ok d h1 => cases d <;> rfl
            | ex x h1 => rfl
            | bad => rfl
          rw [← e1]; exact p
        refine (LE.bd (k := fun d _ h1 => match d with | .bl k => .ok (D.bl !k) h1 | _ => .bad) a' p').mono fun x H1 ⟨m1, τ1, h1, d1, a1, r1, p1⟩ => ?_
        cases r1 with
        | bl k => exact ⟨k, rfl, p1.ok a1 (.bl _)⟩
        | _ => exact p1.elim
      · refine (LT.bd (k := fun c _ h1 => .ok (!c) h1) a' p).mono fun x H1 ⟨m1, τ1, h1, d1, a1, r1, p1⟩ => ?_
        cases (show x = d1 from r1)
        exact p1.ok a1 rfl
    · cases hm
  | .and es, e, X, c, W, k, hm, ok => by
    unfold mE at hm
    split at hm
    · have s := sEs es _ hm ok
      exact ⟨s.andv _, (s.andt _).pt⟩
    · cases hm
  | .or es, e, X, c, W, k, hm, ok => by
    unfold mE at hm
    split at hm
    · have s := sEs es _ hm ok
      exact ⟨s.orv _, (s.ort _).pt⟩
    · cases hm
  | .ife t a b, e, X, c, W, k, hm, ok => by
    unfold mE at hm
    split at hm
    · obtain ⟨hm, h3⟩ := and3 hm
      obtain ⟨h1, h2⟩ := and3 hm
      refine ⟨PE.weak (pe_ifExp (sE t _ h1 ok).2 (sE a _ h2 ok).1 (sE b _ h3 ok).1) fun σ H Q ⟨m, τ, h, a', p⟩ => ?_, never_t⟩
      refine (LT.bd (k := fun k τ h1 => if k = true then (evP C a).1 τ h1 else (evP C b).1 τ h1) a' p).mono fun x H1 ⟨m1, τ1, h1, d1, a1, r1, p1⟩ => ?_
      cases (show x = d1 from r1)
      cases x with
      | true => exact ⟨m1, τ1, h1, a1, p1⟩
      | false => exact ⟨m1, τ1, h1, a1, p1⟩
    · cases hm
  | .tup es, e, X, c, W, k, hm, ok => by
    unfold mE at hm
    split at hm
    · have s := sEs es _ hm ok
      refine both_v ok (PE.weak (pe_tup s.pa) fun σ H Q ⟨m, τ, h, a', p⟩ => ?_) rfl
      refine (LA.bd (k := fun ds _ h1 => if ds.length ≤ sizeLine then .ok (D.tup ds) h1 else .bad) a' p).mono fun x H1 ⟨m1, τ1, h1, d1, a1, r1, p1⟩ => ?_
      by_cases z : d1.length ≤ sizeLine
      · simp only [z, if_true] at p1
        exact ⟨take1 r1 z, fun q hq => PO.newTup (m := m1) (h := h1) p1 a1.rel hq r1⟩
      · simp only [z, if_false] at p1; exact p1.elim
    · cases hm
  | .lst es, e, X, c, W, k, hm, ok => by
    unfold mE at hm
    split at hm
    · have s := sEs es _ hm ok
      refine both_v ok (PE.weak (pe_lst s.pa) fun σ H Q ⟨m, τ, h, a', p⟩ => ?_) rfl
      refine (LA.bd (k := fun ds _ h1 => if ds.length ≤ sizeLine then .ok (D.ref h1.length) (h1 ++ [.lst ds]) else .bad) a' p).mono fun x H1 ⟨m1, τ1, h1, d1, a1, r1, p1⟩ => ?_
      by_cases z : d1.length ≤ sizeLine
      · simp only [z, if_true] at p1
        exact ⟨take1 r1 z, fun q hq => PO.newLst (m := m1) (h := h1) p1 a1.rel hq r1⟩
      · simp only [z, if_false] at p1; exact p1.elim
    · cases hm
  | .ix a i, e, X, c, W, k, hm, ok => by
    unfold mE at hm
    split at hm
    · obtain ⟨hm, h3⟩ := and3 hm
      obtain ⟨h1, h2⟩ := and3 hm
      exact both_v ok (PE.weak (pe_ix (i_ix ok.K) (sE a _ h1 ok).1 (sE i _ h2 ok).1 (ix_of h3)) fun σ H Q p => LE.two p) rfl
    · cases hm
  | .sl a lo hi, e, X, c, W, k, hm, ok => by
    unfold mE at hm
    split at hm
    · obtain ⟨hm, h3⟩ := and3 hm
      obtain ⟨h1, h2⟩ := and3 hm
      refine both_v ok (PE.weak (pe_slice (s_sl ok.K) (sE a _ h1 ok).1 (sO lo _ h2 ok) (sO hi _ h3 ok)) fun σ H Q ⟨m, τ, h, a', p⟩ => ?_) rfl
      refine (LE.bd (k := fun x τ h1 => (evO C lo τ h1).bind fun l h2 => (evO C hi τ h2).bind fun u h3 => ofO (semSl x l u h3)) a' p).mono fun x H1 ⟨m1, τ1, h1, d1, a1, r1, p1⟩ => ?_
      refine ⟨m1, τ1, h1, a1, (Post.bind a1 p1).mono fun l H2 ⟨m2, h2, d2, a2, st, r2, p2⟩ => ?_⟩
      refine ⟨m2, τ1, h2, a2, (Post.bind a2 p2).mono fun u H3 ⟨m3, h3, d3, a3, st3, r3, p3⟩ => ?_⟩
      cases (show l = d2 from r2)
      cases (show u = d3 from r3)
      exact ⟨m3, h3, d1, a3.rel, (r1.stay st).stay st3, p3.po⟩
    · cases hm
  | .bc b es, e, X, c, W, k, hm, ok => by
    unfold mE at hm
    split at hm
    · rename_i x px ee ees pos
      obtain ⟨hm, h4⟩ := and3 hm
      obtain ⟨hm, h3⟩ := and3 hm
      obtain ⟨h1, h2⟩ := and3 hm
      cases seq_of h1
      have s := sEs es _ h4 ok
      have n1 := s.ns ee List.mem_cons_self
      have n2 : (backTo pos (starEach ees X.env)).any (·.1) = false := any_back fun x hx => s.ns x (List.mem_cons_of_mem _ hx)
      refine both_v ok ?_ rfl
      have fin : ∀ σ H Q, LE g W (evP C (.bc b es)).1 σ H Q → tCB (rC g (semB b)) (LA g W (evL (evPs C es))) σ H Q := fun σ H Q ⟨m, τ, h, a', p⟩ => by
        refine (LA.bd (k := fun ds _ h1 => ofO (semB b ds h1)) a' p).mono fun x H1 ⟨m1, τ1, h1, d1, a1, r1, p1⟩ => ?_
        exact ⟨m1, h1, d1, a1.rel, r1, p1.po⟩
      have fr := ok.free _ h3
      have gl := gl_of ok.sc h2
      have bb := b_all (g := g) ok.K ok.calm b
      cases b with
      | len => exact PE.weak (pe_callB bb gl fr (B.boot .len) s.pa (B.noname _) (B.nodebug _) (star_of n1) n2) fin
      | abs => exact PE.weak (pe_callB bb gl fr (B.boot .abs) s.pa (B.noname _) (B.nodebug _) (star_of n1) n2) fin
      | max2 => exact PE.weak (pe_callB bb gl fr (B.boot .max2) s.pa (B.noname _) (B.nodebug _) (star_of n1) n2) fin
      | min2 => exact PE.weak (pe_callB bb gl fr (B.boot .min2) s.pa (B.noname _) (B.nodebug _) (star_of n1) n2) fin
      | int => exact PE.weak (pe_callTy bb gl fr (B.boot .int) s.pa (B.noname _) (B.nodebug _) (star_of n1) n2) fin
      | tuple => exact PE.weak (pe_callTy bb gl fr (B.boot .tuple) s.pa (B.noname _) (B.nodebug _) (star_of n1) n2) fin
      | list => exact PE.weak (pe_callTy bb gl fr (B.boot .list) s.pa (B.noname _) (B.nodebug _) (star_of n1) n2) fin
    · cases hm
  | .isi a t, e, X, c, W, k, hm, ok => by
    unfold mE at hm
    split at hm
    · rename_i x px ea y py pos
      obtain ⟨hm, h9⟩ := and3 hm
      obtain ⟨hm, h8⟩ := and3 hm
      obtain ⟨hm, h7⟩ := and3 hm
      obtain ⟨hm, h6⟩ := and3 hm
      obtain ⟨hm, h5⟩ := and3 hm
      obtain ⟨hm, h4⟩ := and3 hm
      obtain ⟨hm, h3⟩ := and3 hm
      obtain ⟨h1, h2⟩ := and3 hm
      cases seq_of h1
      cases seq_of h4
      have nt : t ≠ .non := of_decide_eq_true h7
      have bt : bootBuiltins t.name = some (.type t.nm) := by
        cases t <;> first | exact absurd rfl nt | decide +kernel
      have pty : PE X (.Name t.name py) (tC (.ty t.nm)) := pe_bltn (gl_of ok.sc h5) (ok.free _ h6) bt rfl (by cases t <;> decide +kernel) (by cases t <;> decide +kernel)
      refine both_v ok (PE.weak (pe_callB call_isi (gl_of ok.sc h2) (ok.free _ h3) (by decide +kernel) (pa_cons (sE a _ h8 ok).1 (pa_cons pty pa_nil (by rfl)) (star_of h9)) (by decide +kernel) (by decide +kernel) (star_of h9) (by rfl)) fun σ H Q ⟨m, τ, h, a', p⟩ => ?_) rfl
      refine (LE.bd (k := fun x _ h1 => match tyD h1 x with | some u => .ok (D.bl (isT u t)) h1 | none => .bad) a' p).mono fun x H1 ⟨m1, τ1, h1, d1, a1, r1, p1⟩ => ?_
      cases q : tyD h1 d1 with
      | none => simp only [q] at p1; exact p1.elim
      | some u =>
        simp only [q] at p1
        have ty := tyD_x a1.rel r1 q
        exact ⟨x, .ty t.nm, .type u.nm, .type t.nm, isT u t, rfl, .ty _, ok.K ▸ ty, kit_ty (kit_isT u t nt), p1.ok a1 (.bl _)⟩
    · cases hm
  | .call f es, e, X, c, W, k, hm, ok => by
    unfold mE at hm
    split at hm
    · rename_i x px ee ees pos
      obtain ⟨hm, h4⟩ := and3 hm
      obtain ⟨hm, h3⟩ := and3 hm
      obtain ⟨h1, h2⟩ := and3 hm
      split at h1
      · rename_i y n hf
        obtain ⟨h5, h6⟩ := and3 h1
        cases seq_of h5
        have hn : n = ees.length + 1 := of_decide_eq_true h6
        obtain ⟨fa, fd, ps, mgx, kp, bd, hl, F⟩ := (ok.fns f _ n hf).ex
        have s := sEs es _ h4 ok
        have n1 := s.ns ee List.mem_cons_self
        have n2 : (backTo pos (starEach ees X.env)).any (·.1) = false := any_back fun x hx => s.ns x (List.mem_cons_of_mem _ hx)
        have gl := gl_of ok.sc h2
        obtain ⟨d1, d2, d3⟩ := dbg_of h3
        refine both_v ok (PE.weak (pe_callSD (E := fun σ => WE W σ) F (ok.room.mono (by omega)) gl mgx kp bd .nil (fun σ => passAt ok.takes σ) s.pa d1 (star_of n1) n2) fun σ H Q ⟨m, τ, h, a', p⟩ => ?_) rfl
        refine (LA.bd (k := fun ds _ h1 => C f ds h1) a' p).mono fun xs H1 ⟨m1, τ1, h1, d1, a1, r1, p1⟩ => ?_
        rw [List.append_nil]
        by_cases hnl : d1.length = n
        · refine ⟨m1, h1, d1, a1.rel, r1, hnl, ?_⟩
          cases q : C f d1 h1 with
          | ok d h' => rw [q] at p1; exact p1
          | ex x h' => rw [q] at p1; exact p1
          | bad => rw [q] at p1; exact p1.elim
        · rw [(ok.fns f _ n hf).len d1 h1 hnl] at p1; exact p1.elim
      · cases h1
    · cases hm
  | .mth .append o es, e, X, c, W, k, hm, ok => by
    unfold mE at hm
    split at hm
    · rename_i eo x ap ee cp
      obtain ⟨hm, h5⟩ := and3 hm
      obtain ⟨hm, h4⟩ := and3 hm
      obtain ⟨hm, h3⟩ := and3 hm
      obtain ⟨h1, h2⟩ := and3 hm
      cases seq_of h1
      have s := sEs es _ h5 ok
      have n1 := s.ns ee List.mem_cons_self
      have hl : (ap.endLine == cp.line) = true := by rw [of_decide_eq_true h3]; simp
      refine both_v ok (PE.weak (pe_bm PySem.F.plainAttrs_list PySem.F.slot_list_append PySem.F.type_list_append mt_append (sE o _ h4 ok).1 s.pa (base_of h2) (by rw [star_of n1]; rfl) hl (star_of n1) rfl) fun σ H Q ⟨m, τ, h, a', p⟩ => ?_) rfl
      refine (LE.bd (k := fun x τ h1 => if isLst h1 x = true then (evL (evPs C es) τ h1).bind fun ds h2 => ofO (semM .append x ds h2) else .bad) a' p).mono fun x H1 ⟨m1, τ1, h1, d1, a1, r1, p1⟩ => ?_
      by_cases z : isLst h1 d1 = true
      · rw [if_pos z] at p1
        obtain ⟨b, xs, hx, hb⟩ := isLst_of a1.rel r1 z
        subst hx
        refine ⟨.inl ⟨rfl, _, .inl (.inl hb)⟩, m1, τ1, h1, a1, (Post.bind a1 p1).mono fun ys H2 ⟨m2, h2, d2, a2, st, r2, p2⟩ => ?_⟩
        match d2, r2, p2 with
        | [], _, p2 => exact p2.elim
        | _ :: _ :: _, _, p2 => exact p2.elim
        | [d], r2, p2 =>
          obtain ⟨y, rfl, ry⟩ := r2.one
          have p3 : DL.PO g H2 m2 Q (appendD d1 d h2) := p2.po
          have r1' := r1.stay st
          cases r1' with
          | ref e1 =>
            simp only [appendD] at p3
            split at p3
            · rename_i e2
              split at p3
              · rename_i hz
                obtain ⟨xs2, q1, q2⟩ := a2.rel.lst e1 e2
                rw [← q2.length] at hz
                refine ⟨b, xs2, y, rfl, rfl, q1, hz, ?_⟩
                have hm2 : b ∈ m2 := List.mem_of_getElem? e1
                refine p3 _ _ _ (.write hm2) (a2.rel.write e1 ⟨_, upd_same, (q2.append (.cons ry .nil)).stay (a2.rel.stay (.write hm2))⟩) .non
              · exact p3.elim
            · exact p3.elim
          | _ => exact p3.elim
      · rw [if_neg z] at p1; exact p1.elim
    · cases hm
  | .comp t vs it co e, x, X, c, W, k, hm, ok => by
    unfold mE at hm
    split at hm
    · rename_i elt tg iter ifs scope pos
      obtain ⟨hm, h5⟩ := and3 hm
      obtain ⟨hm, h4⟩ := and3 hm
      obtain ⟨hm, h3⟩ := and3 hm
      obtain ⟨h1, h2⟩ := and3 hm
      have hv : tgIn t vs = true := of_decide_eq_true h2
      unfold mComp at h3
      obtain ⟨h3, h8⟩ := and3 h3
      obtain ⟨h6, h7⟩ := and3 h3
      have b := blkOk_by h6
      have ev : (ownOf c.N vs).map (·.2) = vs := of_decide_eq_true h7
      have hi := sI it tg iter h1 ok
      have nset := mI_notSet h1
      have bX : BlkOk X.N X.env.scope scope (ownOf c.N vs) := by
        rw [ok.N]
        exact ⟨b.kind, b.uniq, b.ix, fun y hy e => by rw [ok.sc]; exact b.free y hy e, b.own⟩
      have blk := fun s H Ca cl fp => blk_ok ok b s H Ca cl fp
      refine both_v ok (PE.weak (pe_lc ok.calm ok.nd hi bX (fun s H Ca cl fp => p_tg (blk s H Ca cl fp) h8) (fun s H Ca cl fp => sC co ifs h4 (blk s H Ca cl fp)) (fun s H Ca cl fp => (sE e elt h5 (blk s H Ca cl fp)).1) (fold_of nset)) fun σ H Q p => ?_) rfl
      rw [ev]
      exact lc_ok hv p
    · cases hm
  | .sortk e f, x, X, c, W, k, hm, ok => by
    unfold mE at hm
    split at hm
    · rename_i y py ea kx z pz kp pos
      obtain ⟨hm, h9⟩ := and3 hm
      obtain ⟨hm, h8⟩ := and3 hm
      obtain ⟨hm, h7⟩ := and3 hm
      obtain ⟨hm, h6⟩ := and3 hm
      obtain ⟨hm, h5⟩ := and3 hm
      obtain ⟨hm, h4⟩ := and3 hm
      obtain ⟨hm, h3⟩ := and3 hm
      obtain ⟨h1, h2⟩ := and3 hm
      cases seq_of h1
      cases seq_of h4
      split at h5
      · rename_i q n hf
        obtain ⟨h10, h11⟩ := and3 h5
        cases seq_of h10
        cases of_decide_eq_true h11
        obtain ⟨fa, fd, ps, mgx, kp', bd, hl, F⟩ := (ok.fns f _ 1 hf).ex
        exact both_v ok (pe_sorted (k := k) (F := fun d h => C f [d] h) ok.K (ok.room.mono (by omega)) (gl_of ok.sc h2) (ok.free _ h3) (sE e _ h8 ok).1 h9 fun pins s σ H m h Q I r q => k_def (ok.room.mono (by omega)) F bd hl (gl_of ok.sc h6) mgx (dbg_of h7).1 pins s σ H m h Q I r q) rfl
      · cases h5
    · cases hm
  | .sortl e b, x, X, c, W, k, hm, ok => by
    unfold mE at hm
    split at hm
    · rename_i y py ea kx params body scope lp kp pos
      obtain ⟨hm, h8⟩ := and3 hm
      obtain ⟨hm, h7⟩ := and3 hm
      obtain ⟨hm, h6⟩ := and3 hm
      obtain ⟨hm, h5⟩ := and3 hm
      obtain ⟨hm, h4⟩ := and3 hm
      obtain ⟨hm, h3⟩ := and3 hm
      obtain ⟨h1, h2⟩ := and3 hm
      cases seq_of h1
      cases seq_of h4
      split at h8
      · rename_i a ha
        obtain ⟨h9, h10⟩ := and3 h8
        exact both_v ok (pe_sorted (k := k) (F := fun d h => (evP C b).1 [some d] h) ok.K (ok.room.mono (by omega)) (gl_of ok.sc h2) (ok.free _ h3) (sE e _ h6 ok).1 h7 fun pins s σ H m h Q I r q => k_lam ok h5 ha (fnScB_ok h9) (fun X' W' ok' => (sE b _ h10 ok').1) pins s σ H m h Q I r q) rfl
      · cases h8
    · cases hm
theorem sC : ∀ (co : IO) (l : List Expr) {X : Cx} {c : Ck} {k : Nat}, mCs c co l = true → XOk X c g C (fun _ _ _ _ => False) k → PTs X l (PTsO (evC C co) g)
  | .no, l, X, c, k, hm, ok => by
    unfold mCs at hm
    split at hm
    · exact pts_nil
    · cases hm
  | .yes e, l, X, c, k, hm, ok => by
    unfold mCs at hm
    split at hm
    · exact pts_one (sE e _ hm ok).2
    · cases hm
theorem sI : ∀ (it : IIt) (tg x : Expr) {X : Cx} {c : Ck} {W : WX} {k : Nat}, mI c it tg x = true → XOk X c g C W k → PI X tg x (LI g W (evI C it))
  | .seq e, tg, x, X, c, W, k, hm, ok => by
    unfold mI at hm
    obtain ⟨h1, h2⟩ := and3 hm
    exact p_seq ok.K (sE e _ h2 ok).1
  | .rng1 e, tg, x, X, c, W, k, hm, ok => by
    unfold mI at hm
    split at hm
    · obtain ⟨hm, h5⟩ := and3 hm
      obtain ⟨hm, h4⟩ := and3 hm
      obtain ⟨hm, h3⟩ := and3 hm
      obtain ⟨h1, h2⟩ := and3 hm
      cases seq_of h1
      exact p_rng1 (gl_of ok.sc h2) (ok.free _ h3) (sE e _ h4 ok).1 h5
    · cases hm
  | .rng2 e f, tg, x, X, c, W, k, hm, ok => by
    unfold mI at hm
    split at hm
    · obtain ⟨hm, h5⟩ := and3 hm
      obtain ⟨hm, h4⟩ := and3 hm
      obtain ⟨hm, h3⟩ := and3 hm
      obtain ⟨h1, h2⟩ := and3 hm
      cases seq_of h1
      obtain ⟨h6, h7⟩ := and3 h4
      obtain ⟨h8, h9⟩ := and3 h5
      exact p_rng2 (gl_of ok.sc h2) (ok.free _ h3) (sE e _ h6 ok).1 (sE f _ h8 ok).1 h7 h9
    · cases hm
  | .enum e, tg, x, X, c, W, k, hm, ok => by
    unfold mI at hm
    have h00 := (and3 hm).1
    have h01 := (and3 hm).2
    clear hm
    obtain ⟨elts, kk, tpos, rfl⟩ : ∃ elts kk tpos, tg = .Tuple elts kk tpos := by
      cases tg <;> first | exact ⟨_, _, _, rfl⟩ | cases h00
    split at h01
    · obtain ⟨h01, h5⟩ := and3 h01
      obtain ⟨h01, h4⟩ := and3 h01
      obtain ⟨h01, h3⟩ := and3 h01
      obtain ⟨h1, h2⟩ := and3 h01
      cases seq_of h1
      exact p_enum ok.K (gl_of ok.sc h2) (ok.free _ h3) (sE e _ h4 ok).1 h5
    · cases h01
theorem sEs : ∀ (es : IEs) (l : List Expr) {X : Cx} {c : Ck} {W : WX} {k : Nat}, mEs c es l = true → XOk X c g C W k → SEs X g W l (evPs C es)
  | .nil, l, X, c, W, k, hm, ok => by
    unfold mEs at hm
    split at hm
    · exact ses_nil
    · cases hm
  | .cons e es, l, X, c, W, k, hm, ok => by
    unfold mEs at hm
    split at hm
    · obtain ⟨hm, h3⟩ := and3 hm
      obtain ⟨h1, h2⟩ := and3 hm
      obtain ⟨q1, q2⟩ := sE e _ h1 ok
      exact ses_cons q1 q2 h2 (sEs es _ h3 ok)
    · cases hm
theorem sO : ∀ (o : IO) (eo : Option Expr) {X : Cx} {c : Ck} {W : WX} {k : Nat}, mO c o eo = true → XOk X c g C W k → L2.PO X eo (LO g W (evO C o))
  | .no, eo, X, c, W, k, hm, ok => by
    unfold mO at hm
    split at hm
    · exact ⟨fun pins s σ H Q I ⟨m, τ, h, a, p⟩ => po_none.run pins s σ H Q I (show Q none H from p.ok a rfl)⟩
    · cases hm
  | .yes e, eo, X, c, W, k, hm, ok => by
    unfold mO at hm
    split at hm
    · refine ⟨fun pins s σ H Q I ⟨m, τ, h, a, p⟩ => (po_some (sE e _ hm ok).1).run pins s σ H Q I ?_⟩
      refine (LE.bd (k := fun d _ h1 => match d with | .int i => .ok (some i) h1 | _ => .bad) a p).mono fun x H1 ⟨m1, τ1, h1, d1, a1, r1, p1⟩ => ?_
      cases r1 with
      | int i => exact ⟨i, rfl, p1.ok a1 rfl⟩
      | _ => exact p1.elim
    · cases hm
end
end
end DL

set_option Elab.async false
set_option linter.all false
set_option maxRecDepth 100000
namespace DL
open PySem PySem.Spec PyProof.Rows L2

inductive FL where
  | nx (τ : Sd) | rt (d : D) | bk (τ : Sd) | ct (τ : Sd)
inductive RS where
  | ok (f : FL) (h : Hd) | ex (x : Exn) (τ : Sd) (h : Hd) | bad
abbrev Fs := Sd → Hd → RS
def Res.st {α : Type} (r : Res α) (τ : Sd) (k : α → Hd → RS) : RS := match r with
  | .ok a h => k a h
  | .ex x h => .ex x τ h
  | .bad => .bad
@[simp] theorem Res.st_ok {α : Type} (a : α) (h : Hd) (τ : Sd) (k : α → Hd → RS) : (Res.ok a h).st τ k = k a h := rfl
@[simp] theorem Res.st_ex {α : Type} (x : Exn) (h : Hd) (τ : Sd) (k : α → Hd → RS) : (Res.ex x h : Res α).st τ k = .ex x τ h := rfl
@[simp] theorem Res.st_bad {α : Type} (τ : Sd) (k : α → Hd → RS) : (Res.bad : Res α).st τ k = .bad := rfl
def RS.seq (r : RS) (k : Fs) : RS := match r with
  | .ok (.nx τ) h => k τ h
  | r => r
@[simp] theorem RS.seq_nx (τ : Sd) (h : Hd) (k : Fs) : (RS.ok (.nx τ) h).seq k = k τ h := rfl
@[simp] theorem RS.seq_rt (d : D) (h : Hd) (k : Fs) : (RS.ok (.rt d) h).seq k = .ok (.rt d) h := rfl
@[simp] theorem RS.seq_bk (τ : Sd) (h : Hd) (k : Fs) : (RS.ok (.bk τ) h).seq k = .ok (.bk τ) h := rfl
@[simp] theorem RS.seq_ct (τ : Sd) (h : Hd) (k : Fs) : (RS.ok (.ct τ) h).seq k = .ok (.ct τ) h := rfl
@[simp] theorem RS.seq_ex (x : Exn) (τ : Sd) (h : Hd) (k : Fs) : (RS.ex x τ h).seq k = .ex x τ h := rfl
@[simp] theorem RS.seq_bad (k : Fs) : RS.bad.seq k = .bad := rfl
/-- a loop's turn: what follows it -/
def RS.turn (r : RS) (k : Fs) : RS := match r with
  | .ok (.nx τ) h => k τ h
  | .ok (.ct τ) h => k τ h
  | .ok (.bk τ) h => .ok (.nx τ) h
  | r => r
@[simp] theorem RS.turn_nx (τ : Sd) (h : Hd) (k : Fs) : (RS.ok (.nx τ) h).turn k = k τ h := rfl
@[simp] theorem RS.turn_ct (τ : Sd) (h : Hd) (k : Fs) : (RS.ok (.ct τ) h).turn k = k τ h := rfl
@[simp] theorem RS.turn_bk (τ : Sd) (h : Hd) (k : Fs) : (RS.ok (.bk τ) h).turn k = .ok (.nx τ) h := rfl
@[simp] theorem RS.turn_rt (d : D) (h : Hd) (k : Fs) : (RS.ok (.rt d) h).turn k = .ok (.rt d) h := rfl
@[simp] theorem RS.turn_ex (x : Exn) (τ : Sd) (h : Hd) (k : Fs) : (RS.ex x τ h).turn k = .ex x τ h := rfl
@[simp] theorem RS.turn_bad (k : Fs) : RS.bad.turn k = .bad := rfl
open Classical in
noncomputable def forL (I : ItD) (t : ITg) (b : Fs) : List D → Fs
  | [], τ, h => if I.guard h then .ok (.nx τ) h else .bad
  | d :: r, τ, h => if I.guard h then
      match setTg t d τ with
      | none => .bad
      | some τ1 => (b τ1 h).turn (forL I t b r)
    else .bad
def whileN (c : Ft) (b : Fs) : Nat → Sd → Hd → Option RS
  | 0, _, _ => none
  | n + 1, τ, h => match c τ h with
    | .ok true h1 => match b τ h1 with
      | .ok (.nx τ2) h2 => whileN c b n τ2 h2
      | .ok (.ct τ2) h2 => whileN c b n τ2 h2
      | .ok (.bk τ2) h2 => some (.ok (.nx τ2) h2)
      | r => some r
    | .ok false h1 => some (.ok (.nx τ) h1)
    | .ex x h1 => some (.ex x τ h1)
    | .bad => some .bad
open Classical in
noncomputable def whileD (c : Ft) (b : Fs) (τ : Sd) (h : Hd) : RS := if p : ∃ r n, whileN c b n τ h = some r then choose p else .bad
theorem whileN_mono {c : Ft} {b : Fs} : ∀ {n : Nat} {τ : Sd} {h : Hd} {r : RS} (k : Nat), whileN c b n τ h = some r → whileN c b (n + k) τ h = some r
  | 0, _, _, _, _, e => by cases e
  | n + 1, τ, h, r, k, e => by
    have e1 : n + 1 + k = (n + k) + 1 := by omega
    rw [e1]
    unfold whileN at e ⊢
    cases q : c τ h with
    | bad => rw [q] at e; exact e
    | ex x h1 => rw [q] at e; exact e
    | ok a h1 =>
      rw [q] at e
      cases a with
      | false => exact e
      | true =>
        dsimp only at e ⊢
        cases q2 : b τ h1 with
        | bad => rw [q2] at e; exact e
        | ex x τ2 h2 => rw [q2] at e; exact e
        | ok f h2 =>
          rw [q2] at e
          cases f with
          | nx τ2 => exact whileN_mono k e
          | ct τ2 => exact whileN_mono k e
          | bk τ2 => exact e
          | rt d => exact e
theorem whileD_of {c : Ft} {b : Fs} {n : Nat} {τ : Sd} {h : Hd} {r : RS} (e : whileN c b n τ h = some r) : whileD c b τ h = r := by
  have p : ∃ r n, whileN c b n τ h = some r := ⟨r, n, e⟩
  unfold whileD
  rw [dif_pos p]
  obtain ⟨n', e'⟩ := Classical.choose_spec p
  have a1 := whileN_mono n' e
  have a2 := whileN_mono n e'
  rw [Nat.add_comm] at a2
  rw [a1] at a2
  exact (Option.some.inj a2).symm
theorem whileD_has {c : Ft} {b : Fs} {τ : Sd} {h : Hd} : whileD c b τ h = .bad ∨ ∃ n, whileN c b n τ h = some (whileD c b τ h) := by
  by_cases p : ∃ r n, whileN c b n τ h = some r
  · obtain ⟨r, n, e⟩ := p
    right
    rw [whileD_of e]
    exact ⟨n, e⟩
  · left
    unfold whileD
    rw [dif_neg p]
/-- a while whose test is false -/
theorem whileD_no {c : Ft} {b : Fs} {τ : Sd} {h h1 : Hd} (e : c τ h = .ok false h1) : whileD c b τ h = .ok (.nx τ) h1 := whileD_of (n := 1) (by unfold whileN; rw [e])
/-- a while's turn -/
theorem whileD_go {c : Ft} {b : Fs} {τ : Sd} {h h1 : Hd} (e : c τ h = .ok true h1) {r : RS} (w : (b τ h1).turn (whileD c b) = r) (hr : r ≠ .bad) : whileD c b τ h = r := by
  cases q : b τ h1 with
  | bad => rw [q] at w; exact absurd w.symm hr
  | ex x τ2 h2 => rw [q] at w; cases w; exact whileD_of (n := 1) (by unfold whileN; rw [e]; dsimp only; rw [q]; rfl)
  | ok f h2 =>
    rw [q] at w
    cases f with
    | rt d => cases w; exact whileD_of (n := 1) (by unfold whileN; rw [e]; dsimp only; rw [q]; rfl)
    | bk τ2 => cases w; exact whileD_of (n := 1) (by unfold whileN; rw [e]; dsimp only; rw [q]; rfl)
    | nx τ2 =>
      have w' : whileD c b τ2 h2 = r := w
      rcases whileD_has (c := c) (b := b) (τ := τ2) (h := h2) with z | ⟨n, z⟩
      · rw [z] at w'; exact absurd w'.symm hr
      · rw [w'] at z
        exact whileD_of (n := n + 1) (by unfold whileN; rw [e]; dsimp only; rw [q]; exact z)
    | ct τ2 =>
      have w' : whileD c b τ2 h2 = r := w
      rcases whileD_has (c := c) (b := b) (τ := τ2) (h := h2) with z | ⟨n, z⟩
      · rw [z] at w'; exact absurd w'.symm hr
      · rw [w'] at z
        exact whileD_of (n := n + 1) (by unfold whileN; rw [e]; dsimp only; rw [q]; exact z)

mutual
inductive IS where
  | expr (e : IE) | ret (e : IE) | retN | set (i : Nat) (e : IE) | setc (i : Nat) (t : ITg) (vs : List Nat) (it : IIt) (c : IO) (e : IE)
  | unp (is : List Nat) (e : IE) | setix (o i e : IE) | aug (i : Nat) (o : O2) (e : IE)
  | iff (c : IE) (a b : ISs) | whil (c : IE) (b : ISs) | forin (t : ITg) (it : IIt) (b : ISs) | brk | cont | pass
inductive ISs where
  | nil | cons (s : IS) (ss : ISs)
end

def setD (o i d : D) (h : Hd) : Option Hd := match o, i with
  | .ref n, .int k => match h[n]? with
    | some (.lst ds) => (ixN ds.length k).map fun j => h.set n (.lst (ds.set j d))
    | _ => none
  | _, _ => none
def semIp : O2 → D → D → Hd → So
  | .add, .int i, .int j, h => some (.int (i + j), h)
  | .add, .str a, .str b, h => if a.length + b.length ≤ sizeLine then some (.str (a ++ b), h) else none
  | .sub, .int i, .int j, h => some (.int (i - j), h)
  | _, _, _, _ => none
mutual
noncomputable def evS (C : Tab) : IS → Fs
  | .expr e => fun τ h => ((evP C e).1 τ h).st τ fun _ h1 => .ok (.nx τ) h1
  | .ret e => fun τ h => ((evP C e).1 τ h).st τ fun d h1 => .ok (.rt d) h1
  | .retN => fun _ h => .ok (.rt .non) h
  | .set i e => fun τ h => ((evP C e).1 τ h).st τ fun d h1 => .ok (.nx (τ.set i (some d))) h1
  | .setc i t vs it c e => fun τ h => ((evP C (.comp t vs it c e)).1 τ h).st τ fun d h1 => .ok (.nx (τ.set i (some d))) h1
  | .unp is e => fun τ h => ((evP C e).1 τ h).st τ fun d h1 => match setTg (.tup is) d τ with | some τ' => .ok (.nx τ') h1 | none => .bad
  | .setix o i e => fun τ h => ((evP C e).1 τ h).st τ fun d h1 => ((evP C o).1 τ h1).st τ fun x h2 => ((evP C i).1 τ h2).st τ fun y h3 => match setD x y d h3 with | some h4 => .ok (.nx τ) h4 | none => .bad
  | .aug i o e => fun τ h => match τ[i]? with
    | some (some x) => ((evP C e).1 τ h).st τ fun d h1 => match semIp o x d h1 with | some (z, h2) => .ok (.nx (τ.set i (some z))) h2 | none => .bad
    | _ => .bad
  | .iff c a b => fun τ h => ((evP C c).2 τ h).st τ fun k h1 => if k = true then evSs C a τ h1 else evSs C b τ h1
  | .whil c b => whileD (evP C c).2 (evSs C b)
  | .forin t it b => fun τ h => (evI C it τ h).st τ fun I h1 => forL I t (evSs C b) I.items τ h1
  | .brk => fun τ h => .ok (.bk τ) h
  | .cont => fun τ h => .ok (.ct τ) h
  | .pass => fun τ h => .ok (.nx τ) h
noncomputable def evSs (C : Tab) : ISs → Fs
  | .nil => fun τ h => .ok (.nx τ) h
  | .cons s ss => fun τ h => (evS C s τ h).seq (evSs C ss)
end

def notComp : Expr → Bool | .ListComp _ _ _ _ => false | .SetComp _ _ _ _ => false | .DictComp _ _ _ _ _ => false | _ => true
def notTup : Expr → Bool | .Tuple _ _ _ => false | _ => true
def isComp : Expr → Bool | .ListComp _ _ _ _ => true | _ => false
/-- a name's store that swaps nothing -/
def swB (c : Ck) (x : Str) (e : Expr) : Bool := notComp e || (isComp e && (match c.sc.names.lookup x with | some .local => false | _ => true))
mutual
def mS (c : Ck) : IS → Stmt → Bool
  | .expr e => fun s => match s with | .Expr x _ => notComp x && mE c e x | _ => false
  | .ret e => fun s => match s with | .Return (some x) _ => mE c e x | _ => false
  | .retN => fun s => match s with | .Return none _ => true | _ => false
  | .set i e => fun s => match s with | .Assign [.Name x px] ee _ => mNm c i (.Name x px) && mE c e ee && swB c x ee | _ => false
  | .setc i t vs it co e => fun s => match s with
    | .Assign [.Name x px] (.ListComp elt [⟨tg, iter, ifs, 0⟩] scope pos) sp => decide (c.N[i]? = some x) && decide (c.sc.names.lookup x = some .local) && (px.line == pos.line) && !(scope.names.any fun (n, k) => n == x && (k == .local || k == .cell)) &&
      (mI c it tg iter && decide (tgIn t vs = true) && mComp c t vs tg scope && mCs (c.blk scope) co ifs && mE (c.blk scope) e elt)
    | _ => false
  | .unp is e => fun s => match s with | .Assign [.Tuple es _ _] ee _ => mNms c is es && mE c e ee && notTup ee && notComp ee | _ => false
  | .setix o i e => fun s => match s with | .Assign [.Subscript eo ei _] ee _ => mE c o eo && mE c i ei && mE c e ee && notSlice ei && notComp ee | _ => false
  | .aug i o e => fun s => match s with | .AugAssign (.Name x px) eo ee _ => mNm c i (.Name x px) && decide (o.op = eo) && mE c e ee | _ => false
  | .iff t a b => fun s => match s with | .If et ea eb _ => mE c t et && mSs c a ea && mSs c b eb | _ => false
  | .whil t b => fun s => match s with | .While et eb [] _ => mE c t et && mSs c b eb | _ => false
  | .forin t it b => fun s => match s with | .For tg iter eb [] _ => mTg c t tg && mI c it tg iter && mSs c b eb | _ => false
  | .brk => fun s => match s with | .Break _ => true | _ => false
  | .cont => fun s => match s with | .Continue _ => true | _ => false
  | .pass => fun s => match s with | .Pass _ => true | _ => false
def mSs (c : Ck) : ISs → List Stmt → Bool
  | .nil => fun l => match l with | [] => true | _ => false
  | .cons s ss => fun l => match l with | x :: xs => mS c s x && mSs c ss xs | _ => false
end

def PostS (g : Gd) (W : WX) (D : Ends) (H : Hp) (m : List Addr) : RS → Prop
  | .ok (.nx τ') h' => ∀ σ' H' m', Ext H m H' m' → At g σ' H' m' τ' h' → D.nx σ' H'
  | .ok (.rt d) h' => ∀ v H' m', Ext H m H' m' → Rel g H' m' h' → DV g.K H' m' v d → D.rt v H'
  | .ok (.bk τ') h' => ∀ σ' H' m', Ext H m H' m' → At g σ' H' m' τ' h' → D.bk σ' H'
  | .ok (.ct τ') h' => ∀ σ' H' m', Ext H m H' m' → At g σ' H' m' τ' h' → D.ct σ' H'
  | .ex x τ' h' => ∀ c d σ' H' m', Ext H m H' m' → At g σ' H' m' τ' h' → EV g H' m' x c d → W c d σ' H'
  | .bad => False
def LS (g : Gd) (W : WX) (f : Fs) : TS := fun D σ H => ∃ m τ h, At g σ H m τ h ∧ PostS g W D H m (f τ h)
section
variable {g : Gd} {W : WX} {σ : L2.St} {H H1 : Hp} {m m1 : List Addr} {τ : Sd} {h h1 : Hd} {D : Ends}
theorem PostS.ext {r : RS} (p : PostS g W D H m r) (x : Ext H m H1 m1) : PostS g W D H1 m1 r := by
  cases r with
  | ok f h' => cases f with
    | nx τ' => exact fun σ' H' m' x' => p σ' H' m' (x.trans x')
    | rt d => exact fun v H' m' x' => p v H' m' (x.trans x')
    | bk τ' => exact fun σ' H' m' x' => p σ' H' m' (x.trans x')
    | ct τ' => exact fun σ' H' m' x' => p σ' H' m' (x.trans x')
  | ex e τ' h' => exact fun c d σ' H' m' x' => p c d σ' H' m' (x.trans x')
  | bad => exact p
/-- an expression, then what follows -/
theorem LE.st {f : Fe} {k : DL.D → Fs} (a : At g σ H m τ h) (p : PostS g W D H m ((f τ h).st τ fun d h1 => k d τ h1)) :
    LE g W f σ H fun v H1 => ∃ m1 h1 d, Ext H m H1 m1 ∧ At g σ H1 m1 τ h1 ∧ DV g.K H1 m1 v d ∧ PostS g W D H1 m1 (k d τ h1) := by
  refine ⟨m, τ, h, a, ?_⟩
  cases q : f τ h with
  | ok d h1 => rw [q] at p; exact fun v H' m' x r dv => ⟨m', h1, d, x, a.ext x r, dv, PostS.ext p x⟩
  | ex e h1 => rw [q] at p; exact fun c d H' m' x r ev => p c d σ H' m' x (a.ext x r) ev
  | bad => rw [q] at p; exact p
theorem LT.st {f : Ft} {k : Bool → Fs} (a : At g σ H m τ h) (p : PostS g W D H m ((f τ h).st τ fun d h1 => k d τ h1)) :
    LT g W f σ H fun v H1 => ∃ m1 h1, Ext H m H1 m1 ∧ At g σ H1 m1 τ h1 ∧ PostS g W D H1 m1 (k v τ h1) := by
  refine ⟨m, τ, h, a, ?_⟩
  cases q : f τ h with
  | ok d h1 => rw [q] at p; exact fun v H' m' x r dv => by cases (show v = d from dv); exact ⟨m', h1, x, a.ext x r, PostS.ext p x⟩
  | ex e h1 => rw [q] at p; exact fun c d H' m' x r ev => p c d σ H' m' x (a.ext x r) ev
  | bad => rw [q] at p; exact p
theorem LE.mono' {f : Fe} {Q Q' : VK} (p : LE g W f σ H Q) (hq : ∀ v H', Q v H' → Q' v H') : LE g W f σ H Q' := p.mono hq
end
end DL

set_option Elab.async false
set_option linter.all false
set_option maxRecDepth 100000
namespace DL
open PySem PySem.Spec PyProof.Rows L2
theorem swaps_no {e : Expr} {t : Option Expr} {l : Nat} {env : Env} (n : notComp e = true) : swapsWith e t l env = pure false := by
  cases e <;> first | rfl | cases n
theorem sole_no {e t : Expr} {l : Nat} {env : Env} (n : notComp e = true) : swapsWithSole [t] e l env = pure false := swaps_no n
theorem stores_no {ts : List Expr} {kk : Nat} {p : Pos} {e : Expr} {env : Env} (n : notTup e = true) : swappedStores [.Tuple ts kk p] e env = pure none := by
  cases e <;> first | rfl | cases n
theorem stores_sub {o i : Expr} {p : Pos} {e : Expr} {env : Env} : swappedStores [.Subscript o i p] e env = pure none := rfl
section
variable {X : Cx} {c : Ck} {g : Gd} {C : Tab} {W : WX} {k : Nat}
theorem swaps_set (ok : XOk X c g C W k) {x : Str} {px : Pos} {e : Expr} {l : Nat} (n : swB c x e = true) : swapsWith e (some (.Name x px)) l X.env = pure false := by
  unfold swB at n
  rcases Bool.or_eq_true_iff.mp n with n | n
  · exact swaps_no n
  · obtain ⟨n1, n2⟩ := and3 n
    have nl : (X.env.kindOf x == some NameKind.local) = false := by
      have e1 : X.env.kindOf x = c.sc.names.lookup x := congrArg (fun ns => ns.lookup x) ok.sc
      rw [e1]
      split at n2
      · cases n2
      · rename_i hne
        cases q : c.sc.names.lookup x with
        | none => rfl
        | some kk =>
          cases kk <;> first | rfl | exact absurd q hne
    cases e with
    | ListComp elt gs sc pos =>
      unfold swapsWith
      dsimp only
      simp only [nl, Bool.and_false, Bool.false_and]
      try rfl
    | _ => cases n1
theorem o_ip (o : O2) : OpR X (inplaceOp o.op) (rD g (semIp o)) := by
  cases o with
  | add =>
    refine op_or ((iop_add (X := X)).or iop_add_str) fun x y H Q ⟨m, h, dx, dy, r, qx, qy, p⟩ => ?_
    cases qx with
    | int i => cases qy with
      | int j => exact .inl ⟨_, _, rfl, rfl, p.here r (.int _)⟩
      | _ => exact p.elim
    | str a => cases qy with
      | str b =>
        simp only [semIp] at p
        split at p
        · exact .inr ⟨_, _, rfl, rfl, by assumption, p.here r (.str _)⟩
        · exact p.elim
      | _ => exact p.elim
    | _ => exact p.elim
  | sub =>
    refine op_or (iop_sub (X := X)) fun x y H Q ⟨m, h, dx, dy, r, qx, qy, p⟩ => ?_
    cases qx with
    | int i => cases qy with
      | int j => exact ⟨_, _, rfl, rfl, p.here r (.int _)⟩
      | _ => exact p.elim
    | _ => exact p.elim
  | _ => intro pins s σ H x y v u Q I rx ry ⟨m, h, dx, dy, r, qx, qy, p⟩; exact p.elim

/-- o[i] = d, by data -/
theorem setD_ok {H : Hp} {m : List Addr} {h h' : Hd} {x y z : V} {o i d : D} {Q : Hp → Prop} (r : Rel g H m h) (qx : DV g.K H m x o) (qy : DV g.K H m y i) (qz : DV g.K H m z d) (e : setD o i d h = some h')
    (hq : ∀ H', Ext H m H' m → Rel g H' m h' → Q H') : rSetL x y z H Q := by
  cases qx with
  | ref e1 =>
    cases qy with
    | int j =>
      simp only [setD] at e
      split at e
      · rename_i ds e2
        obtain ⟨xs, q1, q2⟩ := r.lst e1 e2
        cases q : ixN ds.length j with
        | none => rw [q] at e; cases e
        | some jj =>
          rw [q] at e
          cases e
          have hm := List.mem_of_getElem? e1
          refine ⟨_, xs, j, jj, rfl, rfl, q1, by rw [q2.length]; exact q, hq _ (.write hm) (r.write e1 ⟨_, upd_same, ?_⟩)⟩
          exact (q2.set qz jj).stay (r.stay (.write hm))
      · cases e
    | _ => cases e
  | _ => cases e
theorem whileN_cases {c : Ft} {b : Fs} {n : Nat} {τ : Sd} {h : Hd} {r : RS} (e : whileN c b n τ h = some r) : ∃ n', n = n' + 1 ∧ (r = (c τ h).st τ fun k h1 => if k = true then (b τ h1).turn (fun τ2 h2 => (whileN c b n' τ2 h2).getD .bad) else .ok (.nx τ) h1) ∧
    ∀ τ2 h1 h2, c τ h = .ok true h1 → (b τ h1 = .ok (.nx τ2) h2 ∨ b τ h1 = .ok (.ct τ2) h2) → whileN c b n' τ2 h2 = some r := by
  cases n with
  | zero => cases e
  | succ n =>
    refine ⟨n, rfl, ?_, ?_⟩
    · unfold whileN at e
      cases q : c τ h with
      | bad => rw [q] at e; cases e; rfl
      | ex x h1 => rw [q] at e; cases e; rfl
      | ok a h1 =>
        rw [q] at e
        cases a with
        | false => cases e; rfl
        | true =>
          dsimp only at e
          simp only [Res.st_ok, if_true]
          cases q2 : b τ h1 with
          | bad => rw [q2] at e; cases e; rfl
          | ex x τ2 h2 => rw [q2] at e; cases e; rfl
          | ok f h2 =>
            rw [q2] at e
            cases f with
            | nx τ2 => have e' : whileN c b n τ2 h2 = some r := e; show r = (whileN c b n τ2 h2).getD .bad; rw [e']; rfl
            | ct τ2 => have e' : whileN c b n τ2 h2 = some r := e; show r = (whileN c b n τ2 h2).getD .bad; rw [e']; rfl
            | bk τ2 => cases e; rfl
            | rt d => cases e; rfl
    · intro τ2 h1 h2 e1 e2
      unfold whileN at e
      rw [e1] at e
      dsimp only at e
      rcases e2 with e2 | e2 <;> (rw [e2] at e; exact e)
mutual
theorem sS : ∀ (s : IS) (st : Stmt) {X : Cx} {c : Ck} {W : WX}, mS c s st = true → XOk X c g C W k → PS X st (LS g W (evS C s))
  | .expr e, st, X, c, W, hm, ok => by
    unfold mS at hm
    split at hm
    · obtain ⟨h1, h2⟩ := and3 hm
      refine PS.weak (ps_expr (sE e _ h2 ok).1 (swaps_no h1)) fun D σ H ⟨m, τ, h, a, p⟩ => ?_
      exact (LE.st (k := fun _ τ h1 => .ok (.nx τ) h1) a p).mono fun v H1 ⟨m1, h1, d, x, a1, r, p1⟩ => p1 σ H1 m1 .refl a1
    · cases hm
  | .ret e, st, X, c, W, hm, ok => by
    unfold mS at hm
    split at hm
    · refine PS.weak (ps_ret (sE e _ hm ok).1) fun D σ H ⟨m, τ, h, a, p⟩ => ?_
      exact (LE.st (k := fun d _ h1 => .ok (.rt d) h1) a p).mono fun v H1 ⟨m1, h1, d, x, a1, r, p1⟩ => p1 v H1 m1 .refl a1.rel r
    · cases hm
  | .retN, st, X, c, W, hm, ok => by
    unfold mS at hm
    split at hm
    · exact PS.weak ps_retN fun D σ H ⟨m, τ, h, a, p⟩ => p .non H m .refl a.rel .non
    · cases hm
  | .set i e, st, X, c, W, hm, ok => by
    unfold mS at hm
    split at hm
    · obtain ⟨hm, h3⟩ := and3 hm
      obtain ⟨h1, h2⟩ := and3 hm
      obtain ⟨x, px, e1, h4, h5⟩ := mNm_of h1
      cases e1
      obtain ⟨l1, l2⟩ := loc_of ok h5
      refine PS.weak (ps_set (i := i) ok.nd (by rw [ok.N]; exact h4) l1 (sE e _ h2 ok).1 (swaps_set ok h3) l2) fun D σ H ⟨m, τ, h, a, p⟩ => ?_
      exact (LE.st (k := fun d τ h1 => .ok (.nx (τ.set i (some d))) h1) a p).mono fun v H1 ⟨m1, h1, d, x, a1, r, p1⟩ => p1 _ H1 m1 .refl ⟨a1.rel, a1.sv.set i r⟩
    · cases hm
  | .setc i t vs it co e, st, X, c, W, hm, ok => by
    unfold mS at hm
    split at hm
    · rename_i x px elt tg iter ifs scope pos sp
      obtain ⟨hm, h5⟩ := and3 hm
      obtain ⟨hm, h4⟩ := and3 hm
      obtain ⟨hm, h3⟩ := and3 hm
      obtain ⟨h1, h2⟩ := and3 hm
      have hN : c.N[i]? = some x := of_decide_eq_true h1
      have hl : X.env.scope.names.lookup x = some .local := by rw [ok.sc]; exact of_decide_eq_true h2
      obtain ⟨hm, g5⟩ := and3 h5
      obtain ⟨hm, g4⟩ := and3 hm
      obtain ⟨hm, g3⟩ := and3 hm
      obtain ⟨g1, g2⟩ := and3 hm
      have hv : tgIn t vs = true := of_decide_eq_true g2
      unfold mComp at g3
      obtain ⟨g3, g8⟩ := and3 g3
      obtain ⟨g6, g7⟩ := and3 g3
      have b := blkOk_by g6
      have ev : (ownOf c.N vs).map (·.2) = vs := of_decide_eq_true g7
      have hi := sI it tg iter g1 ok
      have nset := mI_notSet g1
      have bX : BlkOk X.N X.env.scope scope (ownOf c.N vs) := by
        rw [ok.N]
        exact ⟨b.kind, b.uniq, b.ix, fun y hy e => by rw [ok.sc]; exact b.free y hy e, b.own⟩
      have blk := fun s H Ca cl fp => blk_ok ok b s H Ca cl fp
      have na : (scope.names.any fun (n, k) => n == x && (k == .local || k == .cell)) = false := by
        cases q : (scope.names.any fun (n, k) => n == x && (k == .local || k == .cell)) with
        | true => rw [q] at h4; cases h4
        | false => rfl
      refine PS.weak (ps_setLc (i := i) ok.calm ok.nd (by rw [ok.N]; exact hN) hl (sw_true ok.kind hl h3 na) hi bX (fun s H Ca cl fp => p_tg (blk s H Ca cl fp) g8) (fun s H Ca cl fp => sC co ifs g4 (blk s H Ca cl fp)) (fun s H Ca cl fp => (sE e elt g5 (blk s H Ca cl fp)).1) (fold_of nset)) fun D σ H ⟨m, τ, h, a, p⟩ => ?_
      rw [ev]
      have p' := (LE.st (k := fun d τ h1 => .ok (.nx (τ.set i (some d))) h1) a p).mono (Q' := fun x H1 => gName i x σ H1 D.nx) fun v H1 ⟨m1, h1, d, x, a1, r, p1⟩ => p1 _ H1 m1 .refl ⟨a1.rel, a1.sv.set i r⟩
      exact lc_ok hv p'
    · cases hm
  | .unp is e, st, X, c, W, hm, ok => by
    unfold mS at hm
    split at hm
    · rename_i es kk tp ee sp
      obtain ⟨hm, h4⟩ := and3 hm
      obtain ⟨hm, h3⟩ := and3 hm
      obtain ⟨h1, h2⟩ := and3 hm
      have pg : PG X (.Tuple es kk tp) (gT g.K (.tup is)) := p_tg (t := .tup is) ok h1
      refine PS.weak (ps_asg (sE e _ h2 ok).1 pg (sole_no h4) (stores_no h3) rfl) fun D σ H ⟨m, τ, h, a, p⟩ => ?_
      refine (LE.st (k := fun d τ h1 => match setTg (.tup is) d τ with | some τ' => .ok (.nx τ') h1 | none => .bad) a p).mono fun v H1 ⟨m1, h1, d, x, a1, r, p1⟩ => ?_
      cases q : setTg (.tup is) d τ with
      | none => rw [q] at p1; exact p1.elim
      | some τ' =>
        rw [q] at p1
        exact gT_ok r a1.sv q _ fun σ' s' _ => p1 σ' H1 m1 .refl ⟨a1.rel, s'⟩
    · cases hm
  | .setix o i e, st, X, c, W, hm, ok => by
    unfold mS at hm
    split at hm
    · rename_i eo ei tp ee sp
      obtain ⟨hm, h5⟩ := and3 hm
      obtain ⟨hm, h4⟩ := and3 hm
      obtain ⟨hm, h3⟩ := and3 hm
      obtain ⟨h1, h2⟩ := and3 hm
      have pg := pg_sub (pos := tp) (sE o _ h1 ok).1 (sE i _ h2 ok).1 (set_list (X := X)) (by intro v; cases ei <;> first | rfl | cases h4)
      refine PS.weak (ps_asg (sE e _ h3 ok).1 pg (sole_no h5) stores_sub rfl) fun D σ H ⟨m, τ, h, a, p⟩ => ?_
      refine (LE.st (k := fun d τ h1 => ((evP C o).1 τ h1).st τ fun x h2 => ((evP C i).1 τ h2).st τ fun y h3 => match setD x y d h3 with | some h4 => .ok (.nx τ) h4 | none => .bad) a p).mono fun v H1 ⟨m1, h1, d, x1, a1, r1, p1⟩ => ?_
      refine (LE.st (k := fun x τ h2 => ((evP C i).1 τ h2).st τ fun y h3 => match setD x y d h3 with | some h4 => .ok (.nx τ) h4 | none => .bad) a1 p1).mono fun v2 H2 ⟨m2, h2, d2, x2, a2, r2, p2⟩ => ?_
      refine (LE.st (k := fun y τ h3 => match setD d2 y d h3 with | some h4 => .ok (.nx τ) h4 | none => .bad) a2 p2).mono fun v3 H3 ⟨m3, h3, d3, x3, a3, r3, p3⟩ => ?_
      cases q : setD d2 d3 d h3 with
      | none => rw [q] at p3; exact p3.elim
      | some h4 =>
        rw [q] at p3
        exact setD_ok a3.rel (r2.stay (a2.rel.stay x3)) r3 ((r1.stay (a1.rel.stay x2)).stay (a2.rel.stay x3)) q fun H' x' r' => p3 σ H' m3 x' (a3.ext x' r')
    · cases hm
  | .aug i o e, st, X, c, W, hm, ok => by
    unfold mS at hm
    split at hm
    · obtain ⟨hm, h3⟩ := and3 hm
      obtain ⟨h1, h2⟩ := and3 hm
      obtain ⟨x, px, e1, h4, h5⟩ := mNm_of h1
      cases e1
      cases of_decide_eq_true h2
      obtain ⟨l1, l2⟩ := loc_of ok h5
      refine PS.weak (ps_aug (i := i) (ti := rD g (semIp o)) ok.nd (by rw [ok.N]; exact h4) l1 (sE e _ h3 ok).1 (o_ip o) l2) fun D σ H ⟨m, τ, h, a, p⟩ => ?_
      simp only [evS] at p
      split at p
      · rename_i d0 e0
        obtain ⟨v0, q0, r0⟩ := a.sv.2 i d0 e0
        refine ⟨v0, q0, ?_⟩
        refine (LE.st (k := fun d τ h1 => match semIp o d0 d h1 with | some (z, h2) => .ok (.nx (τ.set i (some z))) h2 | none => .bad) a p).mono fun v H1 ⟨m1, h1, d, x1, a1, r1, p1⟩ => ?_
        refine ⟨m1, h1, d0, d, a1.rel, r0.stay (a.rel.stay x1), r1, ?_⟩
        cases q : semIp o d0 d h1 with
        | none => rw [q] at p1; exact p1.elim
        | some z =>
          obtain ⟨z, h2⟩ := z
          rw [q] at p1
          intro w H' m' x' r' qz
          exact p1 _ H' m' x' ⟨r', (a1.sv.stay (a1.rel.stay x')).set i qz⟩
      · exact p.elim
    · cases hm
  | .iff t a b, st, X, c, W, hm, ok => by
    unfold mS at hm
    split at hm
    · obtain ⟨hm, h3⟩ := and3 hm
      obtain ⟨h1, h2⟩ := and3 hm
      refine PS.weak (ps_if (sE t _ h1 ok).2 (sSs a _ h2 ok) (sSs b _ h3 ok)) fun D σ H ⟨m, τ, h, a', p⟩ => ?_
      refine (LT.st (k := fun k τ h1 => if k = true then evSs C a τ h1 else evSs C b τ h1) a' p).mono fun v H1 ⟨m1, h1, x, a1, p1⟩ => ?_
      cases v with
      | true => exact ⟨m1, τ, h1, a1, p1⟩
      | false => exact ⟨m1, τ, h1, a1, p1⟩
    · cases hm
  | .whil t b, st, X, c, W, hm, ok => by
    unfold mS at hm
    split at hm
    · obtain ⟨h1, h2⟩ := and3 hm
      refine PS.weak (ps_while ok.own (sE t _ h1 ok).2 (sSs b _ h2 ok)) fun D σ H ⟨m, τ, h, a, p⟩ => ?_
      rcases whileD_has (c := (evP C t).2) (b := evSs C b) (τ := τ) (h := h) with z | ⟨n, z⟩
      · have p' : PostS g W D H m (whileD (evP C t).2 (evSs C b) τ h) := p
        rw [z] at p'; exact p'.elim
      · have p' : PostS g W D H m (whileD (evP C t).2 (evSs C b) τ h) := p
        generalize whileD (evP C t).2 (evSs C b) τ h = r at z p'
        refine ⟨fun n σ H => ∃ m τ h, At g σ H m τ h ∧ PostS g W D H m r ∧ whileN (evP C t).2 (evSs C b) n τ h = some r, ⟨n, m, τ, h, a, p', z⟩, ?_⟩
        rintro n σ H ⟨m, τ, h, a, p', z⟩
        obtain ⟨n', rfl, er, nxt⟩ := whileN_cases z
        have p2 : PostS g W D H m (((evP C t).2 τ h).st τ fun k h1 => if k = true then (evSs C b τ h1).turn (fun τ2 h2 => (whileN (evP C t).2 (evSs C b) n' τ2 h2).getD .bad) else .ok (.nx τ) h1) := by rw [← er]; exact p'
        cases qc : (evP C t).2 τ h with
        | bad => rw [qc] at p2; exact p2.elim
        | ex x h1 =>
          refine ⟨m, τ, h, a, ?_⟩
          rw [qc] at p2 ⊢
          exact fun c d H' m' x r ev => p2 c d σ H' m' x (a.ext x r) ev
        | ok kb h1 =>
          rw [qc] at p2
          refine ⟨m, τ, h, a, ?_⟩
          rw [qc]
          intro v H' m' x' r' ev
          have ev' : v = kb := ev
          subst ev'
          have a1 := a.ext x' r'
          cases v with
          | false => exact p2 σ H' m' x' a1
          | true =>
            have p3 : PostS g W D H m ((evSs C b τ h1).turn (fun τ2 h2 => (whileN (evP C t).2 (evSs C b) n' τ2 h2).getD .bad)) := p2
            rw [if_pos rfl]
            refine ⟨fun σ H => ∃ m τ h, At g σ H m τ h ∧ PostS g W D H m r ∧ whileN (evP C t).2 (evSs C b) n' τ h = some r, fun σ' H' h' => ⟨n', Nat.lt_succ_self _, h'⟩, m', τ, h1, a1, ?_⟩
            cases qb : evSs C b τ h1 with
            | bad => rw [qb] at p3; exact p3.elim
            | ex x τ2 h2 => rw [qb] at p3; exact fun c d σ' H2 m2 x2 => p3 c d σ' H2 m2 (x'.trans x2)
            | ok f h2 =>
              rw [qb] at p3
              cases f with
              | nx τ2 => exact fun σ2 H2 m2 x2 a2 => ⟨m2, τ2, h2, a2, p'.ext (x'.trans x2), nxt τ2 h1 h2 qc (.inl qb)⟩
              | ct τ2 => exact fun σ2 H2 m2 x2 a2 => ⟨m2, τ2, h2, a2, p'.ext (x'.trans x2), nxt τ2 h1 h2 qc (.inr qb)⟩
              | bk τ2 => exact fun σ2 H2 m2 x2 a2 => p3 σ2 H2 m2 (x'.trans x2) a2
              | rt d => exact fun v H2 m2 x2 r2 q2 => p3 v H2 m2 (x'.trans x2) r2 q2
    · cases hm
  | .forin t it b, st, X, c, W, hm, ok => by
    unfold mS at hm
    split at hm
    · obtain ⟨hm, h3⟩ := and3 hm
      obtain ⟨h1, h2⟩ := and3 hm
      refine PS.weak (ps_for ok.own ok.calm (sI it _ _ h2 ok) (p_tg ok h1) (sSs b _ h3 ok) (fold_of (mI_notSet h2))) fun D σ H ⟨m, τ, h, a, p⟩ => ?_
      refine ⟨m, τ, h, a, ?_⟩
      have p : PostS g W D H m ((evI C it τ h).st τ fun I h1 => forL I t (evSs C b) I.items τ h1) := p
      cases qi : evI C it τ h with
      | bad => rw [qi] at p; exact p.elim
      | ex x h1 => rw [qi] at p; exact fun c d H' m' x r ev => p c d σ H' m' x (a.ext x r) ev
      | ok I h1 =>
        rw [qi] at p
        intro H1 m1 J x1 r1 wk
        refine ⟨fun i k σ Hc => k = I.items.length - i ∧ i ≤ I.items.length ∧ ∃ mc τc hc, Ext H1 m1 Hc mc ∧ At g σ Hc mc τc hc ∧ PostS g W D Hc mc (forL I t (evSs C b) (I.items.drop i) τc hc),
          ⟨I.items.length, by simp, Nat.zero_le _, m1, τ, h1, .refl, a.ext x1 r1, by rw [List.drop_zero]; exact PostS.ext p x1⟩, ?_⟩
        rintro i k σc Hc ⟨rfl, hi, mc, τc, hc, xc, ac, pc⟩
        by_cases hlt : i < I.items.length
        · have ed : I.items.drop i = I.items[i] :: I.items.drop (i + 1) := List.drop_eq_getElem_cons hlt
          rw [ed] at pc
          rw [forL] at pc
          by_cases gu : I.guard hc
          · rw [if_pos gu] at pc
            refine .inr ⟨wk.go i Hc mc hc xc ac.rel gu hlt, fun σ' H' => i + 1 ≤ I.items.length ∧ ∃ mc τc hc, Ext H1 m1 H' mc ∧ At g σ' H' mc τc hc ∧ PostS g W D H' mc (forL I t (evSs C b) (I.items.drop (i + 1)) τc hc), fun σ' H' ⟨l, z⟩ => ⟨I.items.length - (i + 1), by omega, rfl, l, z⟩, fun x H' y => ?_⟩
            obtain ⟨d, e1, qd, x', r'⟩ := wk.yld i Hc mc hc x H' xc ac.rel gu y hlt
            rw [List.getElem?_eq_getElem hlt] at e1
            cases e1
            cases et : setTg t I.items[i] τc with
            | none => rw [et] at pc; exact pc.elim
            | some τ1 =>
              rw [et] at pc
              refine gT_ok qd (ac.sv.stay (ac.rel.stay x')) et _ fun σ2 s2 _ => ?_
              have a2 : At g σ2 H' mc τ1 hc := ⟨r', s2⟩
              refine ⟨mc, τ1, hc, a2, ?_⟩
              have pc' : PostS g W D Hc mc ((evSs C b τ1 hc).turn (forL I t (evSs C b) (I.items.drop (i + 1)))) := pc
              cases qb : evSs C b τ1 hc with
              | bad => rw [qb] at pc'; exact pc'.elim
              | ex x τ2 h2 => rw [qb] at pc'; exact fun c d σ' H2 m2 x2 => pc' c d σ' H2 m2 (x'.trans x2)
              | ok f h2 =>
                rw [qb] at pc'
                cases f with
                | nx τ2 => exact fun σ2 H2 m2 x2 a2 => ⟨hlt, m2, τ2, h2, (xc.trans x').trans x2, a2, PostS.ext pc' (x'.trans x2)⟩
                | ct τ2 => exact fun σ2 H2 m2 x2 a2 => ⟨hlt, m2, τ2, h2, (xc.trans x').trans x2, a2, PostS.ext pc' (x'.trans x2)⟩
                | bk τ2 => exact fun σ2 H2 m2 x2 a2 => pc' σ2 H2 m2 (x'.trans x2) a2
                | rt d => exact fun v H2 m2 x2 r2 q2 => pc' v H2 m2 (x'.trans x2) r2 q2
          · rw [if_neg gu] at pc; exact pc.elim
        · have ei : i = I.items.length := by omega
          subst ei
          rw [List.drop_length, forL] at pc
          by_cases gu : I.guard hc
          · rw [if_pos gu] at pc
            exact .inl ⟨wk.stop Hc mc hc xc ac.rel gu, pc σc Hc mc .refl ac⟩
          · rw [if_neg gu] at pc; exact pc.elim
    · cases hm
  | .brk, st, X, c, W, hm, ok => by
    unfold mS at hm
    split at hm
    · exact PS.weak ps_break fun D σ H ⟨m, τ, h, a, p⟩ => p σ H m .refl a
    · cases hm
  | .cont, st, X, c, W, hm, ok => by
    unfold mS at hm
    split at hm
    · exact PS.weak ps_continue fun D σ H ⟨m, τ, h, a, p⟩ => p σ H m .refl a
    · cases hm
  | .pass, st, X, c, W, hm, ok => by
    unfold mS at hm
    split at hm
    · exact PS.weak ps_pass fun D σ H ⟨m, τ, h, a, p⟩ => p σ H m .refl a
    · cases hm
theorem sSs : ∀ (ss : ISs) (l : List Stmt) {X : Cx} {c : Ck} {W : WX}, mSs c ss l = true → XOk X c g C W k → PSs X l (LS g W (evSs C ss))
  | .nil, l, X, c, W, hm, ok => by
    unfold mSs at hm
    split at hm
    · exact PSs.weak pss_nil fun D σ H ⟨m, τ, h, a, p⟩ => p σ H m .refl a
    · cases hm
  | .cons s ss, l, X, c, W, hm, ok => by
    unfold mSs at hm
    split at hm
    · obtain ⟨h1, h2⟩ := and3 hm
      refine PSs.weak (pss_cons (sS s _ h1 ok) (sSs ss _ h2 ok)) fun D σ H ⟨m, τ, h, a, p⟩ => ?_
      refine ⟨m, τ, h, a, ?_⟩
      have p : PostS g W D H m ((evS C s τ h).seq (evSs C ss)) := p
      cases q : evS C s τ h with
      | bad => rw [q] at p; exact p.elim
      | ex x τ2 h2 => rw [q] at p; exact p
      | ok f h2 =>
        rw [q] at p
        cases f with
        | nx τ2 => exact fun σ2 H2 m2 x2 a2 => ⟨m2, τ2, h2, a2, PostS.ext p x2⟩
        | ct τ2 => exact p
        | bk τ2 => exact p
        | rt d => exact p
    · cases hm
end
end
end DL

set_option Elab.async false
set_option linter.all false
set_option maxRecDepth 100000
namespace DL
open PySem PySem.Spec PyProof.Rows L2

mutual
def D.bel (n : Nat) : D → Bool
  | .tup ds => D.bels n ds | .rol ds => D.bels n ds | .ref k => decide (k < n) | _ => true
def D.bels (n : Nat) : List D → Bool
  | [] => true | d :: ds => D.bel n d && D.bels n ds
end
mutual
def D.ren (ρ : List Nat) : D → D
  | .tup ds => .tup (D.rens ρ ds) | .rol ds => .rol (D.rens ρ ds) | .ref k => .ref (ρ.getD k 0) | d => d
def D.rens (ρ : List Nat) : List D → List D
  | [] => [] | d :: ds => D.ren ρ d :: D.rens ρ ds
end
def OD.bel (n : Nat) : OD → Bool
  | .lst ds => D.bels n ds
  | .dct kvs => kvs.all fun p => p.1.bel n && p.2.bel n
  | .ins _ fs => D.bels n (fs.map (·.2))
def OD.ren (ρ : List Nat) : OD → OD
  | .lst ds => .lst (D.rens ρ ds)
  | .dct kvs => .dct (kvs.map fun p => (p.1.ren ρ, p.2.ren ρ))
  | .ins c fs => .ins c (fs.map fun p => (p.1, p.2.ren ρ))
def Cl (n : Nat) (h : Hd) : Prop := ∀ o ∈ h, o.bel n = true
mutual
theorem D.bel_of_pure : ∀ {n : Nat} {d : D}, d.pure = true → d.bel n = true
  | _, .non, _ => rfl | _, .bl _, _ => rfl | _, .int _, _ => rfl | _, .str _, _ => rfl
  | _, .tup ds, h => D.bels_of_pure (ds := ds) h
  | _, .rol ds, h => D.bels_of_pure (ds := ds) h
  | _, .ref _, h => by cases h
  | _, .glo _, _ => rfl
theorem D.bels_of_pure : ∀ {n : Nat} {ds : List D}, D.pures ds = true → D.bels n ds = true
  | _, [], _ => rfl
  | _, d :: ds, h => by
    obtain ⟨h1, h2⟩ := and3 h
    show (D.bel _ d && D.bels _ ds) = true
    rw [D.bel_of_pure h1, D.bels_of_pure h2]; rfl
end
section
variable {K : PySem.W.Frag} {H : Hp} {m m' : List Addr} {ρ : List Nat}
mutual
theorem DV.bel : ∀ {v : V} {d : D}, DV K H m v d → d.bel m.length = true
  | _, _, .non => rfl | _, _, .bl _ => rfl | _, _, .int _ => rfl | _, _, .str _ => rfl
  | _, _, .tup _ t => t.bels
  | _, _, .rol _ t => t.bels
  | _, _, .ref e => decide_eq_true (List.getElem?_eq_some_iff.mp e).1
  | _, _, .glo _ => rfl
theorem DVs.bels : ∀ {vs : List V} {ds : List D}, DVs K H m vs ds → D.bels m.length ds = true
  | _, _, .nil => rfl
  | _, _, .cons r t => by
    show (D.bel _ _ && D.bels _ _) = true
    rw [r.bel, t.bels]; rfl
end
/-- m': the places that ρ keeps -/
def pick (m : List Addr) (ρ : List Nat) : List Addr := ρ.map fun k => m.getD k 0
theorem pick_get {i k : Nat} {a : Addr} (hi : ρ[i]? = some k) (ha : m[k]? = some a) : (pick m ρ)[i]? = some a := by
  unfold pick
  rw [List.getElem?_map, hi]
  show some (m.getD k 0) = some a
  rw [List.getD_eq_getElem?_getD, ha]; rfl
mutual
theorem DV.pick : ∀ {v : V} {d : D}, DV K H m v (d.ren ρ) → d.bel ρ.length = true → DV K H (DL.pick m ρ) v d
  | _, .non, h, _ => by cases h; exact .non
  | _, .bl _, h, _ => by cases h; exact .bl _
  | _, .int _, h, _ => by cases h; exact .int _
  | _, .str _, h, _ => by cases h; exact .str _
  | _, .glo _, h, _ => by cases h; exact .glo _
  | _, .tup ds, h, b => by cases h with | tup s t => exact .tup s (DVs.pick (ds := ds) t b)
  | _, .rol ds, h, b => by cases h with | rol s t => exact .rol s (DVs.pick (ds := ds) t b)
  | _, .ref k, h, b => by
    cases h with
    | ref e =>
      have hk : k < ρ.length := of_decide_eq_true b
      refine .ref (pick_get (k := ρ.getD k 0) ?_ e)
      rw [List.getD_eq_getElem?_getD, List.getElem?_eq_getElem hk]; rfl
theorem DVs.pick : ∀ {vs : List V} {ds : List D}, DVs K H m vs (D.rens ρ ds) → D.bels ρ.length ds = true → DVs K H (DL.pick m ρ) vs ds
  | _, [], h, _ => by cases h; exact .nil
  | _, d :: ds, h, b => by
    cases h with
    | cons r t =>
      obtain ⟨b1, b2⟩ := and3 b
      exact .cons (DV.pick r b1) (DVs.pick t b2)
end
end
section
variable {g : Gd} {H H' : Hp} {m m1 : List Addr} {h h1 h2 : Hd}
theorem OV.bel {a : Addr} {o : OD} (x : OV g H m a o) : o.bel m.length = true := by
  cases o with
  | lst ds => obtain ⟨xs, _, q⟩ := x; exact q.bels
  | dct kvs => exact x.elim
  | ins c fs => obtain ⟨_, _, _, _, _, _, q⟩ := x; exact q.bels
theorem Rel.cl (r : Rel g H m h) : Cl h.length h := fun o ho => by
  obtain ⟨n, hn, e⟩ := List.getElem_of_mem ho
  obtain ⟨a, _, x⟩ := r.get (n := n) (o := o) (by rw [List.getElem?_eq_getElem hn, e])
  rw [← r.len]; exact x.bel

/-- what stands behind a def's body, with what is no longer reached forgotten -/
structure View (n0 : Nat) (ds1 : List D) (h1 : Hd) (ds2 : List D) (h2 : Hd) (ρ : List Nat) : Prop where
  len : ρ.length = h2.length
  pre : ∀ i, i < n0 → ρ[i]? = some i
  le : n0 ≤ h2.length
  nd : ρ.Nodup
  lt : ∀ k ∈ ρ, k < h1.length
  ds : ds1 = D.rens ρ ds2
  bel : D.bels h2.length ds2 = true
  obj : ∀ (i k : Nat) o, ρ[i]? = some k → h2[i]? = some o → h1[k]? = some (o.ren ρ) ∧ o.bel h2.length = true
theorem OV.pick {a : Addr} {o : OD} {ρ : List Nat} (x : OV g H m1 a (o.ren ρ)) (b : o.bel ρ.length = true) : OV g H (DL.pick m1 ρ) a o := by
  cases o with
  | lst ds => obtain ⟨xs, e, q⟩ := x; exact ⟨xs, e, q.pick b⟩
  | dct kvs => exact x.elim
  | ins c fs =>
    obtain ⟨Ca, dx, gs, e1, e2, q1, q2⟩ := x
    refine ⟨Ca, dx, gs, e1, e2, ?_, ?_⟩
    · rw [q1, List.map_map]; rfl
    · have e3 : (fs.map fun p => (p.1, D.ren ρ p.2)).map (·.2) = D.rens ρ (fs.map (·.2)) := by
        clear q1 q2 b e2
        induction fs with
        | nil => rfl
        | cons p fs ih => show D.ren ρ p.2 :: _ = D.ren ρ p.2 :: _; rw [ih]
      rw [e3] at q2
      exact q2.pick b
theorem nodup_idx {l : List Nat} (h : l.Nodup) {i j k : Nat} (e1 : l[i]? = some k) (e2 : l[j]? = some k) : i = j := by
  obtain ⟨h1, e1⟩ := List.getElem?_eq_some_iff.mp e1
  obtain ⟨h2, e2⟩ := List.getElem?_eq_some_iff.mp e2
  exact (List.getElem_inj h).mp (e1.trans e2.symm)
theorem View.rel {n0 : Nat} {ds1 ds2 : List D} {ρ : List Nat} (w : View n0 ds1 h1 ds2 h2 ρ) (r : Rel g H m1 h1) : Rel g H (pick m1 ρ) h2 where
  len := by unfold pick; rw [List.length_map]; exact w.len
  nd := by
    unfold pick
    have key : ∀ l : List Nat, l.Nodup → (∀ k ∈ l, k < m1.length) → (l.map fun k => m1.getD k 0).Nodup := by
      intro l
      induction l with
      | nil => intro _ _; simp
      | cons k l ih =>
        intro hn hl
        rw [List.map_cons, List.nodup_cons]
        rw [List.nodup_cons] at hn
        refine ⟨fun hm => ?_, ih hn.2 fun j hj => hl j (List.mem_cons_of_mem _ hj)⟩
        obtain ⟨j, hj, ej⟩ := List.mem_map.mp hm
        have hk := hl k List.mem_cons_self
        have hj' := hl j (List.mem_cons_of_mem _ hj)
        simp only [List.getD_eq_getElem?_getD, List.getElem?_eq_getElem hk, List.getElem?_eq_getElem hj', Option.getD_some] at ej
        have : j = k := (List.getElem_inj r.nd).mp ej
        subst this
        exact hn.1 hj
    exact key ρ w.nd fun k hk => by rw [r.len]; exact w.lt k hk
  obj := fun i a o e1 e2 => by
    have hi : i < ρ.length := by
      obtain ⟨q, _⟩ := List.getElem?_eq_some_iff.mp e2
      rw [w.len]; exact q
    have ek : ρ[i]? = some ρ[i] := List.getElem?_eq_getElem hi
    obtain ⟨q1, q2⟩ := w.obj i ρ[i] o ek e2
    obtain ⟨b, eb, x⟩ := r.get q1
    have : a = b := by rw [pick_get ek eb] at e1; exact (Option.some.inj e1).symm
    subst this
    exact x.pick (by rw [w.len]; exact q2)
  tabs := r.tabs
theorem View.ext {ds1 ds2 : List D} {ρ : List Nat} (w : View m.length ds1 h1 ds2 h2 ρ) (r : Rel g H' m1 h1) (x : Ext H m H' m1) : Ext H m H' (pick m1 ρ) := by
  obtain ⟨e, rfl, pe⟩ := x.pre
  refine ⟨⟨(pick (m ++ e) ρ).drop m.length, ?_, fun a ha => ?_⟩, x.keep⟩
  · have tk : (pick (m ++ e) ρ).take m.length = m := by
      refine List.ext_getElem? fun i => ?_
      rw [List.getElem?_take]
      by_cases hi : i < m.length
      · rw [if_pos hi]
        rw [List.getElem?_eq_getElem hi]
        exact pick_get (w.pre i hi) (by rw [List.getElem?_append_left hi, List.getElem?_eq_getElem hi])
      · rw [if_neg hi, List.getElem?_eq_none (by omega)]
    have q := (List.take_append_drop m.length (pick (m ++ e) ρ)).symm
    rw [tk] at q
    exact q
  · obtain ⟨i, hi, ei⟩ := List.getElem_of_mem ha
    rw [List.length_drop] at hi
    rw [List.getElem_drop] at ei
    have hlen : (pick (m ++ e) ρ).length = ρ.length := by unfold pick; rw [List.length_map]
    have hi' : m.length + i < ρ.length := by omega
    have ek : ρ[m.length + i]? = some ρ[m.length + i] := List.getElem?_eq_getElem hi'
    have hk : ρ[m.length + i] < h1.length := w.lt _ (List.getElem_mem hi')
    have hk2 : ρ[m.length + i] < (m ++ e).length := by rw [r.len]; exact hk
    have ge : m.length ≤ ρ[m.length + i] := by
      refine Nat.le_of_not_lt fun z => ?_
      have := nodup_idx w.nd (w.pre _ z) ek
      omega
    have ea : a = (m ++ e)[ρ[m.length + i]] := by
      have q := pick_get ek (List.getElem?_eq_getElem hk2)
      rw [List.getElem?_eq_getElem (by rw [hlen]; exact hi')] at q
      rw [← ei]
      exact Option.some.inj q
    rw [List.getElem_append_right ge] at ea
    exact pe a (by rw [ea]; exact List.getElem_mem _)
end

def Leads (n0 : Nat) : Res D → Res D → Prop
  | .ok d1 h1, .ok d2 h2 => ∃ ρ, View n0 [d1] h1 [d2] h2 ρ
  | .ex x1 h1, .ex x2 h2 => x1.cls = x2.cls ∧ x1.fs.map (·.1) = x2.fs.map (·.1) ∧ ∃ ρ, View n0 (x1.fs.map (·.2)) h1 (x2.fs.map (·.2)) h2 ρ
  | _, _ => False
def Rfn (F run : Fn) : Prop := ∀ ds h, D.bels h.length ds = true → Cl h.length h → F ds h = .bad ∨ Leads h.length (run ds h) (F ds h)
mutual
theorem D.ren_of {n : Nat} {ρ : List Nat} (hρ : ∀ k, k < n → ρ.getD k 0 = k) : ∀ {d : D}, d.bel n = true → d.ren ρ = d
  | .non, _ => rfl | .bl _, _ => rfl | .int _, _ => rfl | .str _, _ => rfl | .glo _, _ => rfl
  | .tup ds, h => congrArg D.tup (D.rens_of hρ (ds := ds) h)
  | .rol ds, h => congrArg D.rol (D.rens_of hρ (ds := ds) h)
  | .ref k, h => congrArg D.ref (hρ k (of_decide_eq_true h))
theorem D.rens_of {n : Nat} {ρ : List Nat} (hρ : ∀ k, k < n → ρ.getD k 0 = k) : ∀ {ds : List D}, D.bels n ds = true → D.rens ρ ds = ds
  | [], _ => rfl
  | d :: ds, h => by
    obtain ⟨h1, h2⟩ := and3 h
    show D.ren _ d :: D.rens _ ds = _
    rw [D.ren_of hρ h1, D.rens_of hρ h2]
end
theorem OD.ren_of {n : Nat} {ρ : List Nat} (hρ : ∀ k, k < n → ρ.getD k 0 = k) {o : OD} (h : o.bel n = true) : o.ren ρ = o := by
  cases o with
  | lst ds => exact congrArg OD.lst (D.rens_of hρ h)
  | dct kvs =>
    refine congrArg OD.dct ?_
    have h' : ∀ p ∈ kvs, (p.1.bel n && p.2.bel n) = true := List.all_eq_true.mp h
    calc kvs.map (fun p => (p.1.ren ρ, p.2.ren ρ)) = kvs.map id := by
          refine List.map_congr_left fun p hp => ?_
          obtain ⟨h1, h2⟩ := and3 (h' p hp)
          rw [D.ren_of hρ h1, D.ren_of hρ h2]; rfl
      _ = kvs := List.map_id _
  | ins c fs =>
    refine congrArg (OD.ins c) ?_
    have h' : ∀ p ∈ fs, p.2.bel n = true := by
      intro p hp
      have hh : D.bels n (fs.map (·.2)) = true := h
      clear h
      induction fs with
      | nil => cases hp
      | cons q fs ih =>
        obtain ⟨h1, h2⟩ := and3 hh
        rcases List.mem_cons.mp hp with rfl | hp
        · exact h1
        · exact ih hp h2
    calc fs.map (fun p => (p.1, p.2.ren ρ)) = fs.map id := by
          refine List.map_congr_left fun p hp => ?_
          rw [D.ren_of hρ (h' p hp)]; rfl
      _ = fs := List.map_id _
theorem rng_id {n : Nat} : ∀ k, k < n → (List.range n).getD k 0 = k := fun k hk => by
  rw [List.getD_eq_getElem?_getD, List.getElem?_range hk]; rfl
theorem D.ren_id {n : Nat} {d : D} (h : d.bel n = true) : d.ren (List.range n) = d := D.ren_of rng_id h
theorem D.rens_id {n : Nat} {ds : List D} (h : D.bels n ds = true) : D.rens (List.range n) ds = ds := D.rens_of rng_id h
theorem OD.ren_id {n : Nat} {o : OD} (h : o.bel n = true) : o.ren (List.range n) = o := OD.ren_of rng_id h
mutual
theorem D.bel_mono {n n' : Nat} (hn : n ≤ n') : ∀ {d : D}, d.bel n = true → d.bel n' = true
  | .non, _ => rfl | .bl _, _ => rfl | .int _, _ => rfl | .str _, _ => rfl | .glo _, _ => rfl
  | .tup ds, h => D.bels_mono hn (ds := ds) h
  | .rol ds, h => D.bels_mono hn (ds := ds) h
  | .ref k, h => decide_eq_true (Nat.lt_of_lt_of_le (of_decide_eq_true h) hn)
theorem D.bels_mono {n n' : Nat} (hn : n ≤ n') : ∀ {ds : List D}, D.bels n ds = true → D.bels n' ds = true
  | [], _ => rfl
  | d :: ds, h => by
    obtain ⟨h1, h2⟩ := and3 h
    show (D.bel _ d && D.bels _ ds) = true
    rw [D.bel_mono hn h1, D.bels_mono hn h2]; rfl
end
theorem OD.bel_mono {n n' : Nat} (hn : n ≤ n') {o : OD} (h : o.bel n = true) : o.bel n' = true := by
  cases o with
  | lst ds => exact D.bels_mono hn h
  | dct kvs =>
    refine List.all_eq_true.mpr fun p hp => ?_
    obtain ⟨h1, h2⟩ := and3 (List.all_eq_true.mp h p hp)
    show (D.bel _ _ && D.bel _ _) = true
    rw [D.bel_mono hn h1, D.bel_mono hn h2]; rfl
  | ins c fs => exact D.bels_mono hn h
theorem bel_app {n : Nat} {xs ys : List D} : D.bels n (xs ++ ys) = (D.bels n xs && D.bels n ys) := by
  induction xs with
  | nil => simp [D.bels]
  | cons x xs ih => show (D.bel n x && D.bels n (xs ++ ys)) = ((D.bel n x && D.bels n xs) && D.bels n ys); rw [ih, Bool.and_assoc]
theorem View.keep {n0 : Nat} {ds : List D} {h2 junk : Hd} (hl : h2.length = n0) (b : D.bels n0 ds = true) (c : Cl n0 h2) : View n0 ds (h2 ++ junk) ds h2 (List.range n0) where
  len := by simp [hl]
  pre := fun i hi => List.getElem?_range hi
  le := Nat.le_of_eq hl.symm
  nd := List.nodup_range
  lt := fun k hk => by have := List.mem_range.mp hk; simp; omega
  ds := (D.rens_id b).symm
  bel := by rw [hl]; exact b
  obj := fun i k o e1 e2 => by
    have hi : i < n0 := by
      obtain ⟨q, _⟩ := List.getElem?_eq_some_iff.mp e2
      omega
    rw [List.getElem?_range hi] at e1
    cases e1
    have ho := List.mem_of_getElem? e2
    rw [hl]
    exact ⟨by rw [List.getElem?_append_left (by omega), e2, OD.ren_id (c o ho)], c o ho⟩
/-- nothing new is handed back, the heap as it was -/
theorem Leads.keep {n0 : Nat} {d : D} {h2 junk : Hd} (hl : h2.length = n0) (b : d.bel n0 = true) (c : Cl n0 h2) : Leads n0 (.ok d (h2 ++ junk)) (.ok d h2) :=
  ⟨_, View.keep hl (by show (d.bel n0 && true) = true; rw [b]; rfl) c⟩
theorem Leads.pure {d : D} {h junk : Hd} (b : d.bel h.length = true) (c : Cl h.length h) : Leads h.length (.ok d (h ++ junk)) (.ok d h) := .keep rfl b c
theorem Leads.same {d : D} {h : Hd} (b : d.bel h.length = true) (c : Cl h.length h) : Leads h.length (.ok d h) (.ok d h) := by
  have := Leads.keep (junk := []) rfl b c
  rwa [List.append_nil] at this
theorem Leads.keepX {n0 : Nat} {x : Exn} {h2 junk : Hd} (hl : h2.length = n0) (b : D.bels n0 (x.fs.map (·.2)) = true) (c : Cl n0 h2) : Leads n0 (.ex x (h2 ++ junk)) (.ex x h2) :=
  ⟨rfl, rfl, _, View.keep hl b c⟩
/-- a new list is handed back -/
theorem Leads.lst {n0 : Nat} {ds : List D} {h2 j1 j2 : Hd} (hl : h2.length = n0) (b : D.bels n0 ds = true) (c : Cl n0 h2) :
    Leads n0 (.ok (.ref (n0 + j1.length)) (h2 ++ (j1 ++ (.lst ds :: j2)))) (.ok (.ref n0) (h2 ++ [.lst ds])) := by
  have hρ : ∀ k, k < n0 → (List.range n0 ++ [n0 + j1.length]).getD k 0 = k := fun k hk => by
    rw [List.getD_eq_getElem?_getD, List.getElem?_append_left (by simpa using hk), List.getElem?_range hk]; rfl
  have hlast : (List.range n0 ++ [n0 + j1.length])[n0]? = some (n0 + j1.length) := by
    rw [List.getElem?_append_right (by simp)]; simp
  refine ⟨List.range n0 ++ [n0 + j1.length], ?_⟩
  exact {
    len := by simp [hl]
    pre := fun i hi => by rw [List.getElem?_append_left (by simpa using hi), List.getElem?_range hi]
    le := by simp [hl]
    nd := List.nodup_append.mpr ⟨List.nodup_range, by simp, fun a ha b hb => by
      have h1 := List.mem_range.mp ha
      have h2 := List.mem_singleton.mp hb
      omega⟩
    lt := fun k hk => by
      rcases List.mem_append.mp hk with z | z
      · have := List.mem_range.mp z
        simp only [List.length_append, List.length_cons]; omega
      · have := List.mem_singleton.mp z
        simp only [List.length_append, List.length_cons]; omega
    ds := by
      show [D.ref (n0 + j1.length)] = [D.ref ((List.range n0 ++ [n0 + j1.length]).getD n0 0)]
      rw [List.getD_eq_getElem?_getD, hlast]; rfl
    bel := by
      show (decide (n0 < (h2 ++ [OD.lst ds]).length) && true) = true
      simp [hl]
    obj := fun i k o e1 e2 => by
      have le : n0 ≤ (h2 ++ [OD.lst ds]).length := by simp [hl]
      by_cases hi : i < n0
      · rw [List.getElem?_append_left (by simpa using hi), List.getElem?_range hi] at e1
        cases e1
        rw [List.getElem?_append_left (by omega)] at e2
        have ho := c o (List.mem_of_getElem? e2)
        exact ⟨by rw [List.getElem?_append_left (by omega), e2, OD.ren_of hρ ho], OD.bel_mono le ho⟩
      · have ei : i = n0 := by
          obtain ⟨q, _⟩ := List.getElem?_eq_some_iff.mp e2
          simp only [List.length_append, List.length_cons, List.length_nil, hl] at q
          omega
        subst ei
        rw [hlast] at e1
        cases e1
        rw [List.getElem?_append_right (by omega)] at e2
        simp only [hl, Nat.sub_self, List.getElem?_cons_zero, Option.some.injEq] at e2
        subst e2
        have ho : (OD.lst ds).bel i = true := b
        refine ⟨?_, OD.bel_mono le ho⟩
        rw [OD.ren_of hρ ho, List.getElem?_append_right (by omega), hl]
        have e3 : i + j1.length - i = j1.length := by omega
        rw [e3, List.getElem?_append_right (Nat.le_refl _)]
        simp }
end DL

set_option Elab.async false
set_option linter.all false
set_option maxRecDepth 100000
namespace DL
open PySem PySem.Spec PyProof.Rows L2
noncomputable def runB (C : Tab) (body : ISs) (n : Nat) : Fn := fun ds h => match evSs C body (startD n ds) h with
  | .ok (.nx _) h' => .ok .non h'
  | .ok (.rt d) h' => .ok d h'
  | .ex x _ h' => .ex x h'
  | _ => .bad
/-- a def's meaning by its body, p parameters -/
noncomputable def runP (C : Tab) (body : ISs) (n p : Nat) : Fn := fun ds h => if ds.length = p then runB C body n ds h else .bad
section
variable {g : Gd} {H H' : Hp} {m m1 : List Addr} {h h1 h2 : Hd}
/-- from what a body leads to, to what is promised -/
theorem PF.of_leads {Q : VK} {E : XK} {r1 r2 : Res D} (l : Leads m.length r1 r2) (p : PF g H m Q E r2) : PF g H m Q E r1 := by
  cases r1 with
  | bad => cases r2 <;> exact l.elim
  | ok d1 h1 => cases r2 with
    | ok d2 h2 =>
      obtain ⟨ρ, w⟩ := l
      intro v H' m' x r q
      have q' : DV g.K H' m' v (d2.ren ρ) := by
        have e : d1 = d2.ren ρ := by have := w.ds; cases this; rfl
        rw [← e]; exact q
      exact p v H' _ (w.ext r x) (w.rel r) (q'.pick (by rw [w.len]; exact (and3 w.bel).1))
    | _ => exact l.elim
  | ex x1 h1 => cases r2 with
    | ex x2 h2 =>
      obtain ⟨e1, e2, ρ, w⟩ := l
      intro c d H' m' x r ev
      refine p c d H' _ (w.ext r x) (w.rel r) ?_
      obtain ⟨C, c1, c2, c3⟩ := ev
      refine ⟨C, by rw [← e1]; exact c1, c2, ?_⟩
      cases d with
      | none =>
        have : x1.fs = [] := c3
        rw [this] at e2
        show x2.fs = []
        cases x2f : x2.fs with
        | nil => rfl
        | cons _ _ => rw [x2f] at e2; cases e2
      | some a =>
        obtain ⟨fs, q1, q2, q3⟩ := c3
        refine ⟨fs, q1, q2.trans e2, ?_⟩
        rw [w.ds] at q3
        exact q3.pick (by rw [w.len]; exact w.bel)
    | _ => exact l.elim
end
section
variable {P : Program} {w : World} {K : PySem.W.Frag} {mg : Str → Option Value} {base : Heap} {g : Gd}
theorem fnOk_core {x qual : Str} {params : Arguments} {sts : List Stmt} {scope : Scope} {f : Addr} {fd : FuncData} {N ps : List Str} {k : Nat} {c : Ck} {C : Tab} {body : ISs} {F : Fn}
    (Fu : FunD K x qual params sts scope [] [] f fd) (S : FnScope N ps scope) (hK : K = g.K)
    (cN : c.N = N) (cS : c.sc = scope) (hm : mSs c body sts = true) (free : ∀ x, c.free.contains x = true → mg x = none) (lam : c.lam = true → LamOk g base mg fd.code (qual ++ ".<locals>.") k)
    (fns : ∀ f x n, c.fns.lookup f = some (x, n) → FnD P w K mg base k g x n (C f)) (ref : ∀ (H : Hp) (m : List Addr) (Q : VK) (E : XK) ds h, Rel g H m h → D.bels m.length ds = true → ds.length = ps.length → PF g H m Q E (F ds h) → PF g H m Q E (runB C body N.length ds h)) :
    FnOk P w K mg base (L2.CX P w) (k + 4) f fd ps (spF g ps.length F) := by
  obtain ⟨oc, od, dV, kV, doc, pm, an, cdv, ct, osl, rfl, lk, hcd, hD, hKw⟩ := Fu.ex
  have ln : ∀ vs H Q E, spF g ps.length F vs H Q E → vs.length = ps.length := fun vs H Q E ⟨m, h, ds, r, q, hl, p⟩ => by rw [q.length]; exact hl
  refine fn_of (CX := L2.CX P w) (k := k + 3) (sp := spF g ps.length F) lk hcd S ln ?_
  intro A outer s H vs Q E hr ⟨m, h, ds, r, q, hl, p⟩
  have ok : XOk (cxOf (L2.CX P w) P w K mg base N qual scope f cdv A outer s H E) c g C (fun cls d _ H => E cls d H) k := {
    N := cN.symm
    nd := S.nd
    sc := by rw [cS]; rfl
    kind := S.kind
    ckind := by rw [cS]; exact S.kind
    K := hK
    calm := rfl
    cells := fun _ _ => rfl
    free := free
    fns := fns
    room := hr
    lam := lam
    takes := takes_of rfl rfl rfl rfl
    own := passes_of rfl }
  refine ⟨_, sSs body _ hm ok, m, startD N.length ds, h, ⟨r, ?_⟩, ?_⟩
  · rw [← hK]
    refine start_sv (by rw [hK]; exact q) ?_
    rw [q.length, hl]
    have := congrArg List.length S.pre
    rw [List.length_take] at this
    omega
  · have p' := ref H m Q E ds h r q.bels hl p
    have e : runB C body N.length ds h = (match evSs C body (startD N.length ds) h with | .ok (.nx _) h' => .ok .non h' | .ok (.rt d) h' => .ok d h' | .ex x _ h' => .ex x h' | _ => .bad) := rfl
    rw [e] at p'
    revert p'
    cases evSs C body (startD N.length ds) h with
    | bad => exact fun p' => p'.elim
    | ex x τ h' => exact fun p' c d σ' H' m' x' a ev => p' c d H' m' x' a.rel ev
    | ok fl h' =>
      cases fl with
      | nx τ => exact fun p' σ' H' m' x' a => p' .non H' m' x' a.rel .non
      | rt d => exact fun p' v H' m' x' r q => p' v H' m' x' r q
      | bk τ => exact fun p' => p'.elim
      | ct τ => exact fun p' => p'.elim
theorem fnD_core {x qual : Str} {params : Arguments} {sts : List Stmt} {scope : Scope} {f : Addr} {fd : FuncData} {N ps : List Str} {k : Nat} {c : Ck} {C : Tab} {body : ISs} {F : Fn}
    (Fu : FunD K x qual params sts scope [] [] f fd) (hmg : mg x = some (.ref f)) (bd : Binds K fd ps []) (S : FnScope N ps scope) (hK : K = g.K)
    (cN : c.N = N) (cS : c.sc = scope) (hm : mSs c body sts = true) (free : ∀ x, c.free.contains x = true → mg x = none) (lam : c.lam = true → LamOk g base mg fd.code (qual ++ ".<locals>.") k)
    (fns : ∀ f x n, c.fns.lookup f = some (x, n) → FnD P w K mg base k g x n (C f)) (ref : ∀ (H : Hp) (m : List Addr) (Q : VK) (E : XK) ds h, Rel g H m h → D.bels m.length ds = true → ds.length = ps.length → PF g H m Q E (F ds h) → PF g H m Q E (runB C body N.length ds h)) (len : ∀ ds h, ds.length ≠ ps.length → F ds h = .bad) :
    FnD P w K mg base (k + 4) g x ps.length F :=
  ⟨len, f, fd, ps, hmg, Fu.kp, bd, rfl, fnOk_core Fu S hK cN cS hm free lam fns ref⟩
theorem fnD_of {x qual : Str} {params : Arguments} {sts : List Stmt} {scope : Scope} {f : Addr} {fd : FuncData} {N ps : List Str} {k : Nat} {c : Ck} {C : Tab} {body : ISs} {F : Fn}
    (Fu : FunD K x qual params sts scope [] [] f fd) (hmg : mg x = some (.ref f)) (bd : Binds K fd ps []) (S : FnScope N ps scope) (hK : K = g.K)
    (cN : c.N = N) (cS : c.sc = scope) (hm : mSs c body sts = true) (free : ∀ x, c.free.contains x = true → mg x = none) (lam : c.lam = true → LamOk g base mg fd.code (qual ++ ".<locals>.") k)
    (fns : ∀ f x n, c.fns.lookup f = some (x, n) → FnD P w K mg base k g x n (C f)) (ref : Rfn F (runB C body N.length)) (len : ∀ ds h, ds.length ≠ ps.length → F ds h = .bad) :
    FnD P w K mg base (k + 4) g x ps.length F :=
  fnD_core Fu hmg bd S hK cN cS hm free lam fns (fun H m Q E ds h r q hl p => by
    rcases ref ds h (by rw [← r.len]; exact q) r.cl with z | z
    · rw [z] at p; exact p.elim
    · exact PF.of_leads (m := m) (by rw [r.len]; exact z) p) len
theorem fnOk_run {x qual : Str} {params : Arguments} {sts : List Stmt} {scope : Scope} {f : Addr} {fd : FuncData} {N ps : List Str} {k : Nat} {c : Ck} {C : Tab} {body : ISs}
    (Fu : FunD K x qual params sts scope [] [] f fd) (S : FnScope N ps scope) (hK : K = g.K)
    (cN : c.N = N) (cS : c.sc = scope) (hm : mSs c body sts = true) (free : ∀ x, c.free.contains x = true → mg x = none) (lam : c.lam = true → LamOk g base mg fd.code (qual ++ ".<locals>.") k)
    (fns : ∀ f x n, c.fns.lookup f = some (x, n) → FnD P w K mg base k g x n (C f)) :
    FnOk P w K mg base (L2.CX P w) (k + 4) f fd ps (spF g ps.length (runP C body N.length ps.length)) :=
  fnOk_core Fu S hK cN cS hm free lam fns (fun H m Q E ds h r q hl p => by
    unfold runP at p
    rw [if_pos hl] at p
    exact p)
theorem fnD_run {x qual : Str} {params : Arguments} {sts : List Stmt} {scope : Scope} {f : Addr} {fd : FuncData} {N ps : List Str} {k : Nat} {c : Ck} {C : Tab} {body : ISs}
    (Fu : FunD K x qual params sts scope [] [] f fd) (hmg : mg x = some (.ref f)) (bd : Binds K fd ps []) (S : FnScope N ps scope) (hK : K = g.K)
    (cN : c.N = N) (cS : c.sc = scope) (hm : mSs c body sts = true) (free : ∀ x, c.free.contains x = true → mg x = none) (lam : c.lam = true → LamOk g base mg fd.code (qual ++ ".<locals>.") k)
    (fns : ∀ f x n, c.fns.lookup f = some (x, n) → FnD P w K mg base k g x n (C f)) :
    FnD P w K mg base (k + 4) g x ps.length (runP C body N.length ps.length) :=
  fnD_core Fu hmg bd S hK cN cS hm free lam fns (fun H m Q E ds h r q hl p => by
    unfold runP at p
    rw [if_pos hl] at p
    exact p) fun ds h hl => by unfold runP; rw [if_neg hl]
theorem FnD.mono {x : Str} {n j k : Nat} {F : Fn} (d : FnD P w K mg base j g x n F) (h : j ≤ k) : FnD P w K mg base k g x n F := by
  obtain ⟨l, f, fd, ps, a, b, c, e, q⟩ := d
  exact ⟨l, f, fd, ps, a, b, c, e, q.mono h⟩
end
end DL

set_option Elab.async false
set_option linter.all false
set_option maxRecDepth 100000
namespace DL
open PySem PySem.Spec PyProof.Rows L2
def lamQ (p : He.Defn) : Str := p.1 ++ ".<locals>." ++ "<lambda>"
def gdT (tf : List He.Defn) (K : PySem.W.Frag) : List (Addr × Str) := tf.map fun p => ((He.cT K p).2, lamQ p)
structure HFacts (dfs : List He.DefD) (names frees : List Str) (tf : List He.Defn) (K : PySem.W.Frag) (mg : Str → Option Value) (base : Heap) (g : Gd) : Prop where
  defs : ∀ (i : Nat) d, dfs[i]? = some d → ∃ fd, FunD K d.name d.qual d.params d.body d.scope (d.dvs K) (d.kws K) (He.fAd K d.at_) fd
  glo : ∀ x ∈ names, mg x = some (.ref (He.ga K x))
  fr : ∀ x ∈ frees, mg x = none
  hd : ∀ p ∈ tf, PySem.W.codeHdIn K (He.cT K p).1 (He.cT K p).2 = true
  tb : ∀ p ∈ tf, LamX.TabB base mg (He.cT K p).1 (He.cT K p).2
  one : tf.length ≤ 1
  gT : g.T = gdT tf K
  hK : K = g.K
section
variable {dfs : List He.DefD} {names frees : List Str} {tf : List He.Defn} {P : Program} {w : World} {K : PySem.W.Frag} {mg : Str → Option Value} {base : Heap} {g : Gd}
theorem frB {l frees : List Str} (h : (l.all fun b => frees.contains b) = true) : ∀ x, l.contains x = true → x ∈ frees := fun x hx => by
  have h1 := List.all_eq_true.mp h x (by simpa using hx)
  simpa using h1
theorem HFacts.lam (F : HFacts dfs names frees tf K mg base g) {x : Str} {params : Arguments} {body : List Stmt} {scope : Scope} {fd : FuncData} {k : Nat} (Fu : FunD K x x params body scope [] [] (He.ga K x) fd) (hp : (x, none) ∈ tf) (hk : 1 ≤ k) :
    LamOk g base mg fd.code (x ++ ".<locals>.") k := by
  obtain ⟨oc, od, dV, kV, doc, pm, an, cdv, ct, osl, rfl, lk, hcd, hD, hKw⟩ := Fu.ex
  obtain ⟨c, rfl⟩ := He.codeIn_ref hcd
  have e : He.codeOf K (x, none) = c := He.codeOf_eq (p := (x, none)) lk rfl
  have tb := F.tb _ hp
  have e1 : (He.cT K (x, none)).1 = c := e
  rw [e1] at tb
  have hm : ((He.cT K (x, none)).2, lamQ (x, none)) ∈ g.T := by
    rw [F.gT]
    exact List.mem_map.mpr ⟨_, hp, rfl⟩
  refine ⟨hk, c, (He.cT K (x, none)).2, rfl, tb, hm, fun p hp' _ => ?_⟩
  rw [F.gT] at hp'
  obtain ⟨q, hq, rfl⟩ := List.mem_map.mp hp'
  have : q = (x, none) := by
    match tf, F.one, hp, hq with
    | [a], _, hp, hq => rw [List.mem_singleton.mp hp, List.mem_singleton.mp hq]
  rw [this] <;> rfl
theorem fnD_zero {x : Str} {params : Arguments} {sts : List Stmt} {scope : Scope} {f : Addr} {fd : FuncData} {N ps : List Str} (Fu : FunD K x x params sts scope [] [] f fd) (hmg : mg x = some (.ref f)) (bd : Binds K fd ps []) (S : FnScope N ps scope) (k : Nat) :
    FnD P w K mg base (k + 1) g x ps.length (fun _ _ => .bad) := by
  obtain ⟨oc, od, dV, kV, doc, pm, an, cdv, ct, osl, rfl, lk, hcd, hD, hKw⟩ := Fu.ex
  refine ⟨fun _ _ _ => rfl, f, _, ps, hmg, Fu.kp, bd, rfl, ?_⟩
  refine fn_of (CX := L2.CX P w) (k := k) (sp := spF g ps.length fun _ _ => .bad) lk hcd S (fun vs H Q E ⟨m, h, ds, r, q, hl, p⟩ => p.elim) ?_
  intro A outer s H vs Q E hr ⟨m, h, ds, r, q, hl, p⟩
  exact p.elim
theorem hfacts_of {h : Heap} {ts : List He.Tab} {ex : PySem.W.Frag → Bool} (X : K.In h) (G : h.Ns mainGlobals mg) (c : He.SaysX ((names.map He.Fa.glo) ++ (frees.map He.Fa.free)) dfs ts tf ex w h K) (tb : ∀ p ∈ tf, LamX.TabB base mg (He.cT K p).1 (He.cT K p).2) (one : tf.length ≤ 1) (gT : g.T = gdT tf K) (hK : K = g.K) : HFacts dfs names frees tf K mg base g where
  defs := fun i d e => c.t.d.def_ i e
  glo := fun x hx => He.glo_ok X G (c.t.d.facts (List.mem_append_left _ (List.mem_map.mpr ⟨x, hx, rfl⟩)))
  fr := fun x hx => He.free_ok X G (c.t.d.facts (List.mem_append_right _ (List.mem_map.mpr ⟨x, hx, rfl⟩)))
  hd := c.hd
  tb := tb
  one := one
  gT := gT
  hK := hK
/-- the script, as the law gets it -/
inductive ScriptD (ds : List D) : D → Hd → Prop
  | rol : ScriptD ds (.rol ds) []
  | lst : ScriptD ds (.ref 0) [.lst ds]
theorem dvs_ints {K : PySem.W.Frag} {H : Hp} {m : List Addr} : ∀ ns : List Int, DVs K H m (ns.map V.int) (ns.map D.int)
  | [] => .nil
  | n :: ns => .cons (.int n) (dvs_ints ns)
/-- a law's entry -/
theorem law_sp {F : Fn} {n : Nat} {tb : List (Addr × Str)} (hT : g.T = tb) (law : ∀ (ns : List Int) (d : D) (h : Hd), ns.length ≤ n → ScriptD (ns.map D.int) d h → ∃ h', F [d] h = .ok (.bl true) h')
    (H : Hp) (a : Addr) (ns : List Int) (hl : ns.length ≤ n) (ht : ∀ p ∈ tb, H p.1 = some (.tbl #[])) (hS : SqL g.K H a (ns.map V.int)) : spF g 1 F [.ref a] H (fun v _ => v = .bl true) fun _ _ _ => False := by
  have tabs : LamX.Tabs g.T H := fun p hp => .nil (ht p (hT ▸ hp))
  have fin : ∀ (m : List Addr) (d : D) (h : Hd), Rel g H m h → DV g.K H m (.ref a) d → ScriptD (ns.map D.int) d h → spF g 1 F [.ref a] H (fun v _ => v = .bl true) fun _ _ _ => False := fun m d h r q s => by
    obtain ⟨h', e⟩ := law ns d h hl s
    refine ⟨m, h, [d], r, .cons q .nil, rfl, ?_⟩
    rw [e]
    intro v H' m' x r' q'
    cases q' with
    | bl b => rfl
  have r0 : Rel g H [] [] := ⟨rfl, .nil, fun n a o e => by simp at e, tabs⟩
  rcases hS with (e | e) | e
  · refine fin [a] (.ref 0) [.lst (ns.map D.int)] ⟨rfl, by simp, fun i b o e1 e2 => ?_, tabs⟩ (.ref rfl) .lst
    match i, e1, e2 with
    | 0, e1, e2 =>
      cases e1; cases e2
      exact ⟨_, e, dvs_ints ns⟩
  · exact fin [] (.rol (ns.map D.int)) [] r0 (.rol (.inl e) (dvs_ints ns)) .rol
  · exact fin [] (.rol (ns.map D.int)) [] r0 (.rol (.inr e) (dvs_ints ns)) .rol
end
end DL

set_option Elab.async false
set_option linter.all false
set_option maxRecDepth 100000
namespace DL
open PySem PySem.Spec PyProof.Rows L2
def Res.sat {α : Type} (r : Res α) (P : α → Hd → Prop) : Prop := match r with
  | .ok a h => P a h
  | _ => False
def RS.sat (r : RS) (P : FL → Hd → Prop) : Prop := match r with
  | .ok f h => P f h
  | _ => False
def FL.then (P : FL → Hd → Prop) (k : Sd → Hd → Prop) : FL → Hd → Prop
  | .nx τ, h => k τ h
  | f, h => P f h
section
variable {α β : Type} {P Q : α → Hd → Prop} {r : Res α} {R R' : FL → Hd → Prop}
theorem Res.sat_ok {a : α} {h : Hd} : (Res.ok a h).sat P ↔ P a h := Iff.rfl
theorem Res.sat_bad : (Res.bad : Res α).sat P ↔ False := Iff.rfl
theorem Res.sat_bind {P : β → Hd → Prop} {f : α → Hd → Res β} : (r.bind f).sat P ↔ r.sat fun a h => (f a h).sat P := by cases r <;> exact Iff.rfl
theorem Res.sat.mono (s : r.sat P) (h : ∀ a h', P a h' → Q a h') : r.sat Q := by
  cases r with
  | ok a h' => exact h a h' s
  | _ => exact s
theorem Res.sat_st {τ : Sd} {k : α → Hd → RS} : (r.st τ k).sat R ↔ r.sat fun a h => (k a h).sat R := by cases r <;> exact Iff.rfl
theorem RS.sat_ok {f : FL} {h : Hd} : (RS.ok f h).sat R ↔ R f h := Iff.rfl
theorem RS.sat_bad : RS.bad.sat R ↔ False := Iff.rfl
theorem RS.sat_seq {s : RS} {k : Fs} : (s.seq k).sat R ↔ s.sat (FL.then R fun τ h => (k τ h).sat R) := by
  cases s with
  | ok f h => cases f <;> exact Iff.rfl
  | _ => exact Iff.rfl
theorem RS.sat.mono {s : RS} (p : s.sat R) (h : ∀ f h', R f h' → R' f h') : s.sat R' := by
  cases s with
  | ok f h' => exact h f h' p
  | _ => exact p
theorem Res.sat_ite {c : Prop} [Decidable c] {a b : Res α} : (if c then a else b).sat P ↔ if c then a.sat P else b.sat P := by split <;> exact Iff.rfl
theorem RS.sat_ite {c : Prop} [Decidable c] {a b : RS} : (if c then a else b).sat R ↔ if c then a.sat R else b.sat R := by split <;> exact Iff.rfl
theorem FL.then_nx {τ : Sd} {h : Hd} {k : Sd → Hd → Prop} : FL.then R k (.nx τ) h ↔ k τ h := Iff.rfl
theorem FL.then_rt {d : D} {h : Hd} {k : Sd → Hd → Prop} : FL.then R k (.rt d) h ↔ R (.rt d) h := Iff.rfl
theorem FL.then_bk {τ : Sd} {h : Hd} {k : Sd → Hd → Prop} : FL.then R k (.bk τ) h ↔ R (.bk τ) h := Iff.rfl
theorem FL.then_ct {τ : Sd} {h : Hd} {k : Sd → Hd → Prop} : FL.then R k (.ct τ) h ↔ R (.ct τ) h := Iff.rfl
/-- what a body's end must give -/
def retW (P : D → Hd → Prop) : FL → Hd → Prop
  | .nx _, h => P .non h
  | .rt d, h => P d h
  | _, _ => False
theorem retW_nx {P : D → Hd → Prop} {τ : Sd} {h : Hd} : retW P (.nx τ) h ↔ P .non h := Iff.rfl
theorem retW_rt {P : D → Hd → Prop} {d : D} {h : Hd} : retW P (.rt d) h ↔ P d h := Iff.rfl
theorem runP_sat {C : Tab} {b : ISs} {n p : Nat} {ds : List D} {h : Hd} {P : D → Hd → Prop} (hl : ds.length = p) : (runP C b n p ds h).sat P ↔ (evSs C b (startD n ds) h).sat (retW P) := by
  unfold runP
  rw [if_pos hl]
  unfold runB
  cases evSs C b (startD n ds) h with
  | ok f h' => cases f <;> exact Iff.rfl
  | _ => exact Iff.rfl
theorem truR_sat {x : Res D} {P : Bool → Hd → Prop} : (truR x).sat P ↔ x.sat fun d h => match truD d h with | some k => P k h | none => False := by
  unfold truR
  rw [Res.sat_bind]
  constructor
  · intro s; refine s.mono fun d h' z => ?_
    cases e : truD d h' <;> (rw [e] at z; exact z)
  · intro s; refine s.mono fun d h' z => ?_
    cases e : truD d h' <;> (rw [e] at z; exact z)
/-- a truth value's own truth -/
def blD (T : Bool → Hd → Prop) : D → Hd → Prop
  | .bl k, h => T k h
  | _, _ => False
theorem bolR_sat {x : Res D} {P : Bool → Hd → Prop} : (bolR x).sat P ↔ x.sat (blD P) := by
  unfold bolR
  rw [Res.sat_bind]
  constructor
  · intro s; refine s.mono fun d h' z => ?_
    cases d <;> exact z
  · intro s; refine s.mono fun d h' z => ?_
    cases d <;> exact z
/-- an invariant of a for -/
theorem forL_sat {I : ItD} {t : ITg} {b : Fs} (Inv : Nat → Sd → Hd → Prop) {τ : Sd} {h : Hd} (start : Inv 0 τ h) (gd : ∀ i τ h, i ≤ I.items.length → Inv i τ h → I.guard h)
    (turn : ∀ i τ h d, I.items[i]? = some d → Inv i τ h → ∃ τ1, setTg t d τ = some τ1 ∧ (b τ1 h).sat fun f h' => match f with | .nx τ' => Inv (i + 1) τ' h' | .ct τ' => Inv (i + 1) τ' h' | .bk τ' => R (.nx τ') h' | .rt d => R (.rt d) h')
    (fin : ∀ τ h, Inv I.items.length τ h → R (.nx τ) h) : (forL I t b I.items τ h).sat R := by
  have key : ∀ (n i : Nat) τ h, I.items.length - i = n → i ≤ I.items.length → Inv i τ h → (forL I t b (I.items.drop i) τ h).sat R := by
    intro n
    induction n with
    | zero =>
      intro i τ h e hi hv
      have : i = I.items.length := by omega
      subst this
      rw [List.drop_length]
      unfold forL
      rw [if_pos (gd _ τ h hi hv)]
      exact fin τ h hv
    | succ n ih =>
      intro i τ h e hi hv
      have hlt : i < I.items.length := by omega
      rw [List.drop_eq_getElem_cons hlt]
      unfold forL
      rw [if_pos (gd _ τ h hi hv)]
      obtain ⟨τ1, e1, s⟩ := turn i τ h _ (List.getElem?_eq_getElem hlt) hv
      rw [e1]
      dsimp only
      cases q : b τ1 h with
      | bad => rw [q] at s; exact s.elim
      | ex x τ' h' => rw [q] at s; exact s.elim
      | ok f h' =>
        rw [q] at s
        cases f with
        | nx τ' => exact ih (i + 1) τ' h' (by omega) hlt s
        | ct τ' => exact ih (i + 1) τ' h' (by omega) hlt s
        | bk τ' => exact s
        | rt d => exact s
  exact key _ 0 τ h rfl (Nat.zero_le _) start
/-- an invariant of a comprehension -/
theorem compL_sat {I : ItD} {t : ITg} {c : Option Ft} {e : Fe} {τ : Sd} {Z : List D → Hd → Prop} (Inv : Nat → List D → Hd → Prop) {h : Hd} (start : Inv 0 [] h) (gd : ∀ i acc h, i ≤ I.items.length → Inv i acc h → I.guard h)
    (turn : ∀ i acc h d, I.items[i]? = some d → Inv i acc h → ∃ τ1, setTg t d τ = some τ1 ∧ (testO c τ1 h).sat fun k h1 => if k = true then (e τ1 h1).sat fun x h2 => Inv (i + 1) (acc ++ [x]) h2 else Inv (i + 1) acc h1)
    (fin : ∀ acc h, Inv I.items.length acc h → Z acc h) : (noEx (compL I t c e τ I.items h)).sat Z := by
  have key : ∀ (n i : Nat) acc h, I.items.length - i = n → i ≤ I.items.length → Inv i acc h → (compL I t c e τ (I.items.drop i) h).sat fun ds h' => Z (acc ++ ds) h' := by
    intro n
    induction n with
    | zero =>
      intro i acc h e hi hv
      have : i = I.items.length := by omega
      subst this
      rw [List.drop_length]
      unfold compL
      rw [if_pos (gd _ acc h hi hv)]
      show Z (acc ++ []) h
      rw [List.append_nil]
      exact fin acc h hv
    | succ n ih =>
      intro i acc h en hi hv
      have hlt : i < I.items.length := by omega
      rw [List.drop_eq_getElem_cons hlt]
      unfold compL
      rw [if_pos (gd _ acc h hi hv)]
      obtain ⟨τ1, e1, s⟩ := turn i acc h _ (List.getElem?_eq_getElem hlt) hv
      rw [e1]
      dsimp only
      rw [Res.sat_bind]
      refine s.mono fun k h1 z => ?_
      cases k with
      | false => exact ih (i + 1) acc h1 (by omega) hlt z
      | true =>
        rw [if_pos rfl, Res.sat_bind]
        rw [if_pos rfl] at z
        refine z.mono fun x h2 z2 => ?_
        rw [Res.sat_bind]
        refine (ih (i + 1) _ h2 (by omega) hlt z2).mono fun ds h3 z3 => ?_
        show Z (acc ++ (x :: ds)) h3
        rw [List.append_assoc] at z3
        exact z3
  have k0 := key _ 0 [] h rfl (Nat.zero_le _) start
  rw [List.drop_zero] at k0
  cases q : compL I t c e τ I.items h with
  | ok ds h' => rw [q] at k0; exact k0
  | _ => rw [q] at k0; exact k0.elim
end
end DL

set_option Elab.async false
set_option linter.all false
set_option maxRecDepth 100000
namespace DL
open PySem PySem.Spec PyProof.Rows L2
theorem Res.sat_congr {α : Type} {r r' : Res α} {P : α → Hd → Prop} (h : r = r') : r.sat P = r'.sat P := by rw [h]
theorem RS.sat_congr {r r' : RS} {P : FL → Hd → Prop} (h : r = r') : r.sat P = r'.sat P := by rw [h]
section
variable {C : Tab} {τ : Sd} {h : Hd} {P : D → Hd → Prop} {T : Bool → Hd → Prop} {R : FL → Hd → Prop} {S : List D → Hd → Prop} {a b c : IE} {es : IEs}
/-- an expression's value, its truth, several values, a statement, statements -/
@[irreducible] noncomputable def vE (C : Tab) (e : IE) (τ : Sd) (h : Hd) (P : D → Hd → Prop) : Prop := ((evP C e).1 τ h).sat P
@[irreducible] noncomputable def vT (C : Tab) (e : IE) (τ : Sd) (h : Hd) (P : Bool → Hd → Prop) : Prop := ((evP C e).2 τ h).sat P
noncomputable def vL (C : Tab) (es : IEs) (τ : Sd) (h : Hd) (P : List D → Hd → Prop) : Prop := (evL (evPs C es) τ h).sat P
@[irreducible] noncomputable def vS (C : Tab) (s : IS) (τ : Sd) (h : Hd) (P : FL → Hd → Prop) : Prop := (evS C s τ h).sat P
@[irreducible] noncomputable def vSs (C : Tab) (s : ISs) (τ : Sd) (h : Hd) (P : FL → Hd → Prop) : Prop := (evSs C s τ h).sat P
noncomputable def vI (C : Tab) (s : IIt) (τ : Sd) (h : Hd) (P : ItD → Hd → Prop) : Prop := (evI C s τ h).sat P
def vO (o : So) (P : D → Hd → Prop) : Prop := (ofO o).sat P
noncomputable def vC (F : Fn) (ds : List D) (h : Hd) (P : D → Hd → Prop) : Prop := (F ds h).sat P
noncomputable def vAndT (C : Tab) (es : IEs) (τ : Sd) (h : Hd) (P : Bool → Hd → Prop) : Prop := (andT (evPs C es) τ h).sat P
noncomputable def vOrT (C : Tab) (es : IEs) (τ : Sd) (h : Hd) (P : Bool → Hd → Prop) : Prop := (orT (evPs C es) τ h).sat P
noncomputable def vAnd (C : Tab) (es : IEs) (τ : Sd) (h : Hd) (P : D → Hd → Prop) : Prop := (andV (evPs C es) τ h).sat P
noncomputable def vOr (C : Tab) (es : IEs) (τ : Sd) (h : Hd) (P : D → Hd → Prop) : Prop := (orV (evPs C es) τ h).sat P
theorem vE_congr {e e' : IE} (h1 : e = e') : vE C e τ h P = vE C e' τ h P := by rw [h1]
theorem vT_congr {e e' : IE} (h1 : e = e') : vT C e τ h T = vT C e' τ h T := by rw [h1]
theorem vL_congr {e e' : IEs} (h1 : e = e') : vL C e τ h S = vL C e' τ h S := by rw [h1]
theorem vS_congr {e e' : IS} (h1 : e = e') : vS C e τ h R = vS C e' τ h R := by rw [h1]
theorem vSs_congr {e e' : ISs} (h1 : e = e') : vSs C e τ h R = vSs C e' τ h R := by rw [h1]
theorem vI_congr {e e' : IIt} {P : ItD → Hd → Prop} (h1 : e = e') : vI C e τ h P = vI C e' τ h P := by rw [h1]
theorem vO_congr {e e' : So} (h1 : e = e') : vO e P = vO e' P := by rw [h1]
theorem vC_congr {F : Fn} {e e' : List D} (h1 : e = e') : vC F e h P = vC F e' h P := by rw [h1]
theorem vC_def {F : Fn} {ds : List D} : vC F ds h P ↔ (F ds h).sat P := Iff.rfl
theorem vC.mono {F : Fn} {ds : List D} {Q : D → Hd → Prop} (s : (F ds h).sat P) (q : ∀ d h', P d h' → Q d h') : vC F ds h Q := Res.sat.mono s q
theorem vO_some {d : D} {h1 : Hd} : vO (some (d, h1)) P ↔ P d h1 := Iff.rfl
theorem vO_none : vO none P ↔ False := Iff.rfl
def varD (o : Option (Option D)) (P : D → Hd → Prop) (h : Hd) : Prop := match o with | some (some d) => P d h | _ => False
theorem varD_congr {o o' : Option (Option D)} (e : o = o') : varD o P h = varD o' P h := by rw [e]
theorem varD_some {d : D} : varD (some (some d)) P h ↔ P d h := Iff.rfl
theorem v_var {i : Nat} : vE C (.var i) τ h P ↔ varD τ[i]? P h := by
  unfold vE; simp only [evP, mkV]
  cases e : τ[i]? with
  | none => exact Iff.rfl
  | some o => cases o <;> exact Iff.rfl
theorem v_int {i : Int} : vE C (.int i) τ h P ↔ P (.int i) h := by unfold vE; simp only [evP, mkV]; exact Iff.rfl
theorem v_str {x : Str} : vE C (.str x) τ h P ↔ P (.str x) h := by unfold vE; simp only [evP, mkV]; exact Iff.rfl
theorem v_bl {x : Bool} : vE C (.bl x) τ h P ↔ P (.bl x) h := by unfold vE; simp only [evP, mkV]; exact Iff.rfl
theorem v_non : vE C .non τ h P ↔ P .non h := by unfold vE; simp only [evP, mkV]; exact Iff.rfl
theorem v_op2 {o : O2} : vE C (.op2 o a b) τ h P ↔ vE C a τ h fun x h1 => vE C b τ h1 fun y h2 => vO (semO o x y h2) P := by
  unfold vE vO; simp only [evP, mkV, Res.sat_bind]
theorem v_cmp {o : C2} : vE C (.cmp o a b) τ h P ↔ vE C a τ h fun x h1 => vE C b τ h1 fun y h2 => vO (semC o x y h2) P := by
  unfold vE vO; simp only [evP, mkC, Res.sat_bind]
theorem blD_bl {k : Bool} : blD T (.bl k) h ↔ T k h := Iff.rfl
def trD (T : Bool → Hd → Prop) (d : D) (h : Hd) : Prop := match truD d h with | some k => T k h | none => False
theorem trD_of {d : D} {k : Bool} (e : truD d h = some k) : trD T d h ↔ T k h := by unfold trD; rw [e]
theorem trD_bl {k : Bool} : trD T (.bl k) h ↔ T k h := Iff.rfl
theorem t_cmp {o : C2} : vT C (.cmp o a b) τ h T ↔ vE C a τ h fun x h1 => vE C b τ h1 fun y h2 => vO (semC o x y h2) (blD T) := by
  unfold vE vT vO; simp only [evP, mkC, bolR_sat, Res.sat_bind]
theorem v_neg : vE C (.neg a) τ h P ↔ vE C a τ h fun x h1 => vO (semNeg x h1) P := by unfold vE vO; simp only [evP, mkV, Res.sat_bind]
theorem v_nt : vE C (.nt a) τ h P ↔ vE C a τ h (blD fun k h1 => P (.bl !k) h1) := by
  unfold vE; simp only [evP, Res.sat_bind, bolR_sat, Res.sat_ok]
theorem t_nt : vT C (.nt a) τ h T ↔ vT C a τ h fun k h1 => T (!k) h1 := by unfold vT; simp only [evP, Res.sat_bind, Res.sat_ok]
theorem v_and : vE C (.and es) τ h P ↔ vAnd C es τ h P := by unfold vE vAnd; simp only [evP]
theorem v_or : vE C (.or es) τ h P ↔ vOr C es τ h P := by unfold vE vOr; simp only [evP]
theorem t_and : vT C (.and es) τ h T ↔ vAndT C es τ h T := by unfold vT vAndT; simp only [evP]
theorem t_or : vT C (.or es) τ h T ↔ vOrT C es τ h T := by unfold vT vOrT; simp only [evP]
theorem and1 : vAnd C (.cons a .nil) τ h P ↔ vE C a τ h P := by unfold vAnd vE; simp only [evPs, andV]
theorem or1 : vOr C (.cons a .nil) τ h P ↔ vE C a τ h P := by unfold vOr vE; simp only [evPs, orV]
theorem andT1 : vAndT C (.cons a .nil) τ h T ↔ vT C a τ h T := by unfold vAndT vT; simp only [evPs, andT]
theorem orT1 : vOrT C (.cons a .nil) τ h T ↔ vT C a τ h T := by unfold vOrT vT; simp only [evPs, orT]
theorem and2 : vAnd C (.cons a (.cons b es)) τ h P ↔ vE C a τ h (blD fun k h1 => if k = true then vAnd C (.cons b es) τ h1 P else P (.bl false) h1) := by
  unfold vAnd vE
  simp only [evPs, andV, Res.sat_bind]
  constructor
  · intro s; refine s.mono fun d h' z => ?_
    cases d with
    | bl k => cases k <;> exact z
    | _ => exact z
  · intro s; refine s.mono fun d h' z => ?_
    cases d with
    | bl k => cases k <;> exact z
    | _ => exact z
theorem or2 : vOr C (.cons a (.cons b es)) τ h P ↔ vE C a τ h (blD fun k h1 => if k = true then P (.bl true) h1 else vOr C (.cons b es) τ h1 P) := by
  unfold vOr vE
  simp only [evPs, orV, Res.sat_bind]
  constructor
  · intro s; refine s.mono fun d h' z => ?_
    cases d with
    | bl k => cases k <;> exact z
    | _ => exact z
  · intro s; refine s.mono fun d h' z => ?_
    cases d with
    | bl k => cases k <;> exact z
    | _ => exact z
theorem andT2 : vAndT C (.cons a (.cons b es)) τ h T ↔ vT C a τ h fun k h1 => if k = true then vAndT C (.cons b es) τ h1 T else T false h1 := by
  unfold vAndT vT; simp only [evPs, andT, Res.sat_bind, Res.sat_ite, Res.sat_ok]
theorem orT2 : vOrT C (.cons a (.cons b es)) τ h T ↔ vT C a τ h fun k h1 => if k = true then T true h1 else vOrT C (.cons b es) τ h1 T := by
  unfold vOrT vT; simp only [evPs, orT, Res.sat_bind, Res.sat_ite, Res.sat_ok]
theorem v_ife : vE C (.ife c a b) τ h P ↔ vT C c τ h fun k h1 => if k = true then vE C a τ h1 P else vE C b τ h1 P := by
  unfold vE vT; simp only [evP, Res.sat_bind, Res.sat_ite]
theorem l_nil : vL C .nil τ h S ↔ S [] h := by unfold vL; simp only [evPs, evL]; exact Iff.rfl
theorem l_cons : vL C (.cons a es) τ h S ↔ vE C a τ h fun d h1 => vL C es τ h1 fun ds h2 => S (d :: ds) h2 := by
  unfold vL vE; simp only [evPs, evL, Res.sat_bind, Res.sat_ok]
theorem v_tup : vE C (.tup es) τ h P ↔ vL C es τ h fun ds h1 => ds.length ≤ sizeLine ∧ P (.tup ds) h1 := by
  unfold vL vE
  simp only [evP, mkV, Res.sat_bind, Res.sat_ite, Res.sat_ok, Res.sat_bad]
  constructor
  · intro s; exact s.mono fun ds h1 z => by split at z <;> first | exact ⟨by assumption, z⟩ | exact z.elim
  · intro s; exact s.mono fun ds h1 z => by rw [if_pos z.1]; exact z.2
theorem v_lst : vE C (.lst es) τ h P ↔ vL C es τ h fun ds h1 => ds.length ≤ sizeLine ∧ P (.ref h1.length) (h1 ++ [.lst ds]) := by
  unfold vL vE
  simp only [evP, mkV, Res.sat_bind, Res.sat_ite, Res.sat_ok, Res.sat_bad]
  constructor
  · intro s; exact s.mono fun ds h1 z => by split at z <;> first | exact ⟨by assumption, z⟩ | exact z.elim
  · intro s; exact s.mono fun ds h1 z => by rw [if_pos z.1]; exact z.2
theorem v_ix : vE C (.ix a b) τ h P ↔ vE C a τ h fun x h1 => vE C b τ h1 fun y h2 => vO (semIx x y h2) P := by
  unfold vE vO; simp only [evP, mkV, Res.sat_bind]
def vOp (C : Tab) (o : IO) (τ : Sd) (h : Hd) (P : Option Int → Hd → Prop) : Prop := (evO C o τ h).sat P
theorem vOp_congr {o o' : IO} {P : Option Int → Hd → Prop} (h1 : o = o') : vOp C o τ h P = vOp C o' τ h P := by rw [h1]
theorem o_no {P : Option Int → Hd → Prop} : vOp C .no τ h P ↔ P none h := by unfold vOp; simp only [evO]; exact Iff.rfl
def inD1 (P : Option Int → Hd → Prop) : D → Hd → Prop
  | .int i, h => P (some i) h
  | _, _ => False
theorem inD1_int {P : Option Int → Hd → Prop} {i : Int} : inD1 P (.int i) h ↔ P (some i) h := Iff.rfl
theorem o_yes {P : Option Int → Hd → Prop} : vOp C (.yes a) τ h P ↔ vE C a τ h (inD1 P) := by
  unfold vOp vE
  simp only [evO, Res.sat_bind]
  constructor
  · intro s; exact s.mono fun d h' z => by cases d <;> exact z
  · intro s; exact s.mono fun d h' z => by cases d <;> exact z
theorem v_sl {lo hi : IO} : vE C (.sl a lo hi) τ h P ↔ vE C a τ h fun x h1 => vOp C lo τ h1 fun l h2 => vOp C hi τ h2 fun u h3 => vO (semSl x l u h3) P := by
  unfold vE vO vOp; simp only [evP, mkV, Res.sat_bind]
theorem v_bc {f : B} : vE C (.bc f es) τ h P ↔ vL C es τ h fun ds h1 => vO (semB f ds h1) P := by unfold vE vL vO; simp only [evP, mkV, Res.sat_bind]
def isD (t : Ty) (P : D → Hd → Prop) (d : D) (h : Hd) : Prop := match tyD h d with | some u => P (.bl (isT u t)) h | none => False
theorem isD_of {t u : Ty} {d : D} (e : tyD h d = some u) : isD t P d h ↔ P (.bl (isT u t)) h := by unfold isD; rw [e]
theorem v_isi {t : Ty} : vE C (.isi a t) τ h P ↔ vE C a τ h (isD t P) := by
  unfold vE
  simp only [evP, mkV, Res.sat_bind]
  constructor
  · intro s; refine s.mono fun d h' z => ?_
    unfold isD; cases e : tyD h' d <;> (rw [e] at z; exact z)
  · intro s; refine s.mono fun d h' z => ?_
    unfold isD at z; cases e : tyD h' d <;> (rw [e] at z; exact z)
theorem v_call {f : Nat} : vE C (.call f es) τ h P ↔ vL C es τ h fun ds h1 => vC (C f) ds h1 P := by unfold vE vL vC; simp only [evP, mkV, Res.sat_bind]
theorem v_app {o : IE} : vE C (.mth .append o es) τ h P ↔ vE C o τ h fun x h1 => isLst h1 x = true ∧ vL C es τ h1 fun ds h2 => vO (semM .append x ds h2) P := by
  unfold vE vL vO
  simp only [evP, mkV, Res.sat_bind, Res.sat_ite, Res.sat_bad]
  constructor
  · intro s; exact s.mono fun d h1 z => by split at z <;> first | exact ⟨by assumption, z⟩ | exact z.elim
  · intro s; exact s.mono fun d h1 z => by rw [if_pos z.1]; exact z.2
/-- what a comprehension's turns give -/
noncomputable def vCo (C : Tab) (t : ITg) (vs : List Nat) (c : IO) (e : IE) (I : ItD) (τ : Sd) (h : Hd) (P : List D → Hd → Prop) : Prop := (noEx (compL I t (evC C c) (evP C e).1 (wipeD τ vs) I.items h)).sat P
theorem v_comp {t : ITg} {vs : List Nat} {it : IIt} {co : IO} : vE C (.comp t vs it co a) τ h P ↔ vI C it τ h fun I h1 => vCo C t vs co a I τ h1 fun ds h2 => ds.length ≤ sizeLine ∧ P (.ref h2.length) (h2 ++ [.lst ds]) := by
  unfold vE vI vCo
  simp only [evP, mkV, Res.sat_bind, Res.sat_ite, Res.sat_ok, Res.sat_bad]
  constructor
  · intro s; exact s.mono fun d h1 z => z.mono fun ds h2 z2 => by split at z2 <;> first | exact ⟨by assumption, z2⟩ | exact z2.elim
  · intro s; exact s.mono fun d h1 z => z.mono fun ds h2 z2 => by rw [if_pos z2.1]; exact z2.2
theorem v_sortk {f : Nat} : vE C (.sortk a f) τ h P ↔ vE C a τ h fun x h1 => (sortR (fun d h => C f [d] h) x h1).sat P := by unfold vE; simp only [evP, mkV, Res.sat_bind]
theorem v_sortl : vE C (.sortl a b) τ h P ↔ vE C a τ h fun x h1 => (sortR (fun d h => (evP C b).1 [some d] h) x h1).sat P := by unfold vE; simp only [evP, mkV, Res.sat_bind]
theorem t_var {i : Nat} : vT C (.var i) τ h T ↔ vE C (.var i) τ h (trD T) := by
  unfold vT vE; rw [show (evP C (.var i)).2 = fun τ h => truR ((evP C (.var i)).1 τ h) from by simp only [evP, mkV]]; simp only [truR_sat]; exact Iff.rfl
theorem t_bl {x : Bool} : vT C (.bl x) τ h T ↔ T x h := by unfold vT; simp only [evP, mkV, truR_sat]; exact Iff.rfl
theorem t_isi {t : Ty} : vT C (.isi a t) τ h T ↔ vE C (.isi a t) τ h (trD T) := by
  unfold vT vE; rw [show (evP C (.isi a t)).2 = fun τ h => truR ((evP C (.isi a t)).1 τ h) from by simp only [evP, mkV]]; simp only [truR_sat]; exact Iff.rfl
theorem t_call {f : Nat} : vT C (.call f es) τ h T ↔ vE C (.call f es) τ h (trD T) := by
  unfold vT vE; rw [show (evP C (.call f es)).2 = fun τ h => truR ((evP C (.call f es)).1 τ h) from by simp only [evP, mkV]]; simp only [truR_sat]; exact Iff.rfl
def itD (o : Option ItD) (P : ItD → Hd → Prop) (h : Hd) : Prop := match o with | some I => P I h | none => False
theorem itD_some {I : ItD} {P : ItD → Hd → Prop} : itD (some I) P h ↔ P I h := Iff.rfl
theorem itD_of {o : Option ItD} {I : ItD} {P : ItD → Hd → Prop} (e : o = some I) : itD o P h ↔ P I h := by rw [e]; exact Iff.rfl
theorem ofI_sat {o : Option ItD} {P : ItD → Hd → Prop} : (ofI o h).sat P ↔ itD o P h := by cases o <;> exact Iff.rfl
theorem i_seq {P : ItD → Hd → Prop} : vI C (.seq a) τ h P ↔ vE C a τ h fun d h1 => itD (itSeq d h1) P h1 := by unfold vI vE; simp only [evI, Res.sat_bind, ofI_sat]
theorem i_enum {P : ItD → Hd → Prop} : vI C (.enum a) τ h P ↔ vE C a τ h fun d h1 => itD (itEnum d h1) P h1 := by unfold vI vE; simp only [evI, Res.sat_bind, ofI_sat]
def rngD (P : ItD → Hd → Prop) : D → Hd → Prop
  | .int j, h => itD (itRng 0 j) P h
  | _, _ => False
theorem rngD_int {P : ItD → Hd → Prop} {j : Int} (h1 : -(2 ^ 62) ≤ j) (h2 : j < 2 ^ 62) : rngD P (.int j) h ↔ P ⟨(List.range j.toNat).map fun (i : Nat) => .int (i : Int), []⟩ h := by
  show itD (itRng 0 j) P h ↔ _
  unfold itRng
  rw [if_pos ⟨by decide, by decide, h1, h2⟩]
  simp only [Int.sub_zero, Int.zero_add]
  exact Iff.rfl
theorem i_rng1' {P : ItD → Hd → Prop} : vI C (.rng1 a) τ h P ↔ vE C a τ h (rngD P) := by
  unfold vI vE
  simp only [evI, Res.sat_bind]
  constructor
  · intro s; exact s.mono fun d h1 z => by
      cases d with
      | int j => exact ofI_sat.mp z
      | _ => exact z
  · intro s; exact s.mono fun d h1 z => by
      cases d with
      | int j => exact ofI_sat.mpr z
      | _ => exact z
@[irreducible] def rngW (P : ItD → Hd → Prop) (d : D) (h : Hd) : Prop := rngD P d h
theorem i_rng1 {P : ItD → Hd → Prop} : vI C (.rng1 a) τ h P ↔ vE C a τ h (rngW P) := by
  rw [i_rng1', show rngW P = rngD P from by unfold rngW; rfl]
theorem rngD_i {P : ItD → Hd → Prop} {i : Int} (h0 : 0 ≤ i) (hn : i ≤ 1000000) (q : P ⟨(List.range i.toNat).map fun (i : Nat) => .int (i : Int), []⟩ h) : rngW P (.int i) h := by
  unfold rngW
  exact (rngD_int (Int.le_trans (by decide) h0) (Int.lt_of_le_of_lt hn (by decide))).mpr q
theorem rngD_nat {P : ItD → Hd → Prop} {n : Nat} (hn : (n : Int) ≤ 1000000) (q : P ⟨(List.range n).map fun (i : Nat) => .int (i : Int), []⟩ h) : rngW P (.int (n : Int)) h :=
  rngD_i (Int.natCast_nonneg n) hn (by rw [Int.toNat_natCast]; exact q)
theorem ss_nil : vSs C .nil τ h R ↔ R (.nx τ) h := by unfold vSs; simp only [evSs]; exact Iff.rfl
theorem ss_cons {s : IS} {ss : ISs} : vSs C (.cons s ss) τ h R ↔ vS C s τ h (FL.then R fun τ' h' => vSs C ss τ' h' R) := by unfold vSs vS; simp only [evSs, RS.sat_seq]
theorem s_expr : vS C (.expr a) τ h R ↔ vE C a τ h fun _ h1 => R (.nx τ) h1 := by unfold vS vE; simp only [evS, Res.sat_st]; exact Iff.rfl
theorem s_ret : vS C (.ret a) τ h R ↔ vE C a τ h fun d h1 => R (.rt d) h1 := by unfold vS vE; simp only [evS, Res.sat_st]; exact Iff.rfl
theorem s_retN : vS C .retN τ h R ↔ R (.rt .non) h := by unfold vS; simp only [evS]; exact Iff.rfl
theorem s_set {i : Nat} : vS C (.set i a) τ h R ↔ vE C a τ h fun d h1 => R (.nx (τ.set i (some d))) h1 := by unfold vS vE; simp only [evS, Res.sat_st]; exact Iff.rfl
theorem s_setc {i : Nat} {t : ITg} {vs : List Nat} {it : IIt} {co : IO} : vS C (.setc i t vs it co a) τ h R ↔ vE C (.comp t vs it co a) τ h fun d h1 => R (.nx (τ.set i (some d))) h1 := by unfold vS vE; simp only [evS, Res.sat_st]; exact Iff.rfl
def setW (o : Option Hd) (Q : Hd → Prop) : Prop := match o with | some k => Q k | none => False
theorem setW_congr {o o' : Option Hd} {Q : Hd → Prop} (e : o = o') : setW o Q = setW o' Q := by rw [e]
theorem setW_some {k : Hd} {Q : Hd → Prop} : setW (some k) Q ↔ Q k := Iff.rfl
theorem s_setix {o i e : IE} : vS C (.setix o i e) τ h R ↔ vE C e τ h fun d h1 => vE C o τ h1 fun x h2 => vE C i τ h2 fun y h3 => setW (setD x y d h3) fun h4 => R (.nx τ) h4 := by
  unfold vS vE
  simp only [evS, Res.sat_st]
  constructor
  · intro s; exact s.mono fun d h1 z => z.mono fun x h2 z => z.mono fun y h3 z => by
      cases e : setD x y d h3 with
      | none => rw [e] at z; exact z.elim
      | some h4 => rw [e] at z; exact z
  · intro s; exact s.mono fun d h1 z => z.mono fun x h2 z => z.mono fun y h3 z => by
      cases e : setD x y d h3 with
      | none => rw [e] at z; exact z.elim
      | some h4 => rw [e] at z; exact z
theorem s_iff {p q : ISs} : vS C (.iff c p q) τ h R ↔ vT C c τ h fun k h1 => if k = true then vSs C p τ h1 R else vSs C q τ h1 R := by unfold vS vT vSs; simp only [evS, Res.sat_st, RS.sat_ite]
theorem s_for {t : ITg} {it : IIt} {p : ISs} : vS C (.forin t it p) τ h R ↔ vI C it τ h fun I h1 => (forL I t (evSs C p) I.items τ h1).sat R := by unfold vS vI; simp only [evS, Res.sat_st]
theorem s_brk : vS C .brk τ h R ↔ R (.bk τ) h := by unfold vS; simp only [evS]; exact Iff.rfl
theorem s_cont : vS C .cont τ h R ↔ R (.ct τ) h := by unfold vS; simp only [evS]; exact Iff.rfl
theorem s_pass : vS C .pass τ h R ↔ R (.nx τ) h := by unfold vS; simp only [evS]; exact Iff.rfl
theorem runP_v {n p : Nat} {ds : List D} {body : ISs} {σ : Sd} (hl : ds.length = p) (hs : startD n ds = σ) (s : vSs C body σ h (retW P)) : (runP C body n p ds h).sat P := by
  unfold vSs at s
  exact (runP_sat hl).mpr (hs ▸ s)
theorem set_at {n : Nat} {o o' : OD} (e : h[n]? = some o') : (h.set n o)[n]? = some o := by
  rw [List.getElem?_set_self (List.getElem?_eq_some_iff.mp e).1]
theorem app_at {n : Nat} {o : OD} {k : Hd} (e : h[n]? = some o) : (h ++ k)[n]? = some o := by rw [List.getElem?_append_left (List.getElem?_eq_some_iff.mp e).1]; exact e
theorem app_new {o : OD} : (h ++ [o])[h.length]? = some o := by simp
theorem ix_ref {n : Nat} {ds : List D} {i : Int} {d : D} (e : h[n]? = some (.lst ds)) (e2 : atI ds i = some d) : vO (semIx (.ref n) (.int i) h) P ↔ P d h := by
  have : semIx (.ref n) (.int i) h = some (d, h) := by simp only [semIx, seqOf, e, e2, Option.map_some]
  rw [this]; exact Iff.rfl
theorem ix_tup {ds : List D} {i : Int} {d : D} (e2 : atI ds i = some d) : vO (semIx (.tup ds) (.int i) h) P ↔ P d h := by
  have : semIx (.tup ds) (.int i) h = some (d, h) := by simp only [semIx, seqOf, e2, Option.map_some]
  rw [this]; exact Iff.rfl
theorem setD_ref {n : Nat} {ds : List D} {i : Int} {j : Nat} {d : D} (e : h[n]? = some (.lst ds)) (e2 : ixN ds.length i = some j) : setD (.ref n) (.int i) d h = some (h.set n (.lst (ds.set j d))) := by
  simp only [setD, e, e2, Option.map_some]
theorem len_ref {n : Nat} {ds : List D} (e : h[n]? = some (.lst ds)) : vO (semB .len [.ref n] h) P ↔ P (.int ds.length) h := by
  have : semB .len [.ref n] h = some (.int ds.length, h) := by simp only [semB, on1, lenD, seqOf, e, Option.map_some]
  rw [this]; exact Iff.rfl
theorem len_tup {ds : List D} : vO (semB .len [.tup ds] h) P ↔ P (.int ds.length) h := Iff.rfl
theorem add_ii {i j : Int} : vO (semO .add (.int i) (.int j) h) P ↔ P (.int (i + j)) h := Iff.rfl
theorem sub_ii {i j : Int} : vO (semO .sub (.int i) (.int j) h) P ↔ P (.int (i - j)) h := Iff.rfl
theorem mul_ii {i j : Int} (e : -(2 ^ 64) < j ∧ j < 2 ^ 64) : vO (semO .mul (.int i) (.int j) h) P ↔ P (.int (i * j)) h := by
  have : semO .mul (.int i) (.int j) h = some (.int (i * j), h) := by simp only [semO, semMul]; rw [if_pos (.inr e)]
  rw [this]; exact Iff.rfl
theorem div_ii {i j : Int} (e : 0 < j) (e2 : j.natAbs.log2 < 9000) : vO (semO .div (.int i) (.int j) h) P ↔ P (.int (i / j)) h := by
  have : semO .div (.int i) (.int j) h = some (.int (i / j), h) := by simp only [semO, semDiv]; rw [if_pos ⟨e, e2⟩]
  rw [this]; exact Iff.rfl
theorem mod_ii {i j : Int} (e : 0 < j) : vO (semO .mod (.int i) (.int j) h) P ↔ P (.int (i % j)) h := by
  have : semO .mod (.int i) (.int j) h = some (.int (i % j), h) := by simp only [semO, semMod]; rw [if_pos e]
  rw [this]; exact Iff.rfl
theorem pow_ii {i j : Int} (e : 0 ≤ j ∧ j ≤ 1000000 ∧ i.natAbs < 2 ^ 64) : vO (semO .pow (.int i) (.int j) h) P ↔ P (.int (i ^ j.toNat)) h := by
  have : semO .pow (.int i) (.int j) h = some (.int (i ^ j.toNat), h) := by simp only [semO, semPow]; rw [if_pos e]
  rw [this]; exact Iff.rfl
theorem lt_ii {i j : Int} : vO (semC .lt (.int i) (.int j) h) P ↔ P (.bl (decide (i < j))) h := Iff.rfl
theorem le_ii {i j : Int} : vO (semC .le (.int i) (.int j) h) P ↔ P (.bl (decide (i ≤ j))) h := Iff.rfl
theorem gt_ii {i j : Int} : vO (semC .gt (.int i) (.int j) h) P ↔ P (.bl (decide (j < i))) h := Iff.rfl
theorem ge_ii {i j : Int} : vO (semC .ge (.int i) (.int j) h) P ↔ P (.bl (decide (j ≤ i))) h := Iff.rfl
theorem eqv_ii {i j : Int} : PyData.eqv (.int i) (.int j) = decide (i = j) := by
  simp [PyData.eqv]
  rfl
theorem eq_ii {i j : Int} : vO (semC .eq (.int i) (.int j) h) P ↔ P (.bl (decide (i = j))) h := by
  have : semC .eq (.int i) (.int j) h = some (.bl (decide (i = j)), h) := by
    have z : eqD (.int i) (.int j) = some (decide (i = j)) := by
      unfold eqD
      rw [if_pos ⟨rfl, rfl, Nat.zero_le _⟩]
      exact congrArg some eqv_ii
    simp only [semC, semEq, z, Option.map_some]; rfl
  rw [this]; exact Iff.rfl
theorem abs_i {i : Int} : vO (semB .abs [.int i] h) P ↔ P (.int (if i < 0 then -i else i)) h := Iff.rfl
theorem int_i {i : Int} : vO (semB .int [.int i] h) P ↔ P (.int i) h := Iff.rfl
theorem max_ii {i j : Int} : vO (semB .max2 [.int i, .int j] h) P ↔ P (.int (if j > i then j else i)) h := Iff.rfl
theorem min_ii {i j : Int} : vO (semB .min2 [.int i, .int j] h) P ↔ P (.int (if j < i then j else i)) h := Iff.rfl
theorem neg_i {i : Int} : vO (semNeg (.int i) h) P ↔ P (.int (-i)) h := Iff.rfl
theorem atI_1 {a b : D} {l : List D} : atI (a :: b :: l) 1 = some b := atI_nat (j := 1) rfl
theorem atI_2 {a b c : D} {l : List D} : atI (a :: b :: c :: l) 2 = some c := atI_nat (j := 2) rfl
theorem atI_3 {a b c d : D} {l : List D} : atI (a :: b :: c :: d :: l) 3 = some d := atI_nat (j := 3) rfl
theorem setD4_1 {n : Nat} {a b c d x : D} (e : h[n]? = some (.lst [a, b, c, d])) : setD (.ref n) (.int 1) x h = some (h.set n (.lst [a, x, c, d])) := setD_ref (j := 1) e rfl
theorem setD4_2 {n : Nat} {a b c d x : D} (e : h[n]? = some (.lst [a, b, c, d])) : setD (.ref n) (.int 2) x h = some (h.set n (.lst [a, b, x, d])) := setD_ref (j := 2) e rfl
theorem setD4_3 {n : Nat} {a b c d x : D} (e : h[n]? = some (.lst [a, b, c, d])) : setD (.ref n) (.int 3) x h = some (h.set n (.lst [a, b, c, x])) := setD_ref (j := 3) e rfl
theorem atI_0 {a : D} {l : List D} : atI (a :: l) 0 = some a := atI_nat (j := 0) rfl
end
section
variable {C : Tab} {τ : Sd} {h : Hd} {t : ITg} {vs : List Nat} {e c : IE} {I : ItD} {Z : List D → Hd → Prop} {R : FL → Hd → Prop} {p : ISs}
theorem vCo_no (Inv : Nat → List D → Hd → Prop) (start : Inv 0 [] h) (gd : ∀ i acc h, i ≤ I.items.length → Inv i acc h → I.guard h)
    (turn : ∀ i acc h d, I.items[i]? = some d → Inv i acc h → ∃ τ1, setTg t d (wipeD τ vs) = some τ1 ∧ vE C e τ1 h fun x h2 => Inv (i + 1) (acc ++ [x]) h2)
    (fin : ∀ acc h, Inv I.items.length acc h → Z acc h) : vCo C t vs .no e I τ h Z := by
  unfold vCo
  refine compL_sat Inv start gd (fun i acc h d hd hv => ?_) fin
  obtain ⟨τ1, e1, s⟩ := turn i acc h d hd hv
  refine ⟨τ1, e1, ?_⟩
  simp only [evC]
  unfold vE at s
  exact s
theorem vCo_yes (Inv : Nat → List D → Hd → Prop) (start : Inv 0 [] h) (gd : ∀ i acc h, i ≤ I.items.length → Inv i acc h → I.guard h)
    (turn : ∀ i acc h d, I.items[i]? = some d → Inv i acc h → ∃ τ1, setTg t d (wipeD τ vs) = some τ1 ∧ vT C c τ1 h fun k h1 => if k = true then vE C e τ1 h1 fun x h2 => Inv (i + 1) (acc ++ [x]) h2 else Inv (i + 1) acc h1)
    (fin : ∀ acc h, Inv I.items.length acc h → Z acc h) : vCo C t vs (.yes c) e I τ h Z := by
  unfold vCo
  refine compL_sat Inv start gd (fun i acc h d hd hv => ?_) fin
  obtain ⟨τ1, e1, s⟩ := turn i acc h d hd hv
  refine ⟨τ1, e1, ?_⟩
  simp only [evC]
  unfold vE vT at s
  exact s
theorem ss_mid {s : IS} {ss : ISs} (M : Sd → Hd → Prop) (a : vS C s τ h (FL.then R M)) (b : ∀ τ' h', M τ' h' → vSs C ss τ' h' R) : vSs C (.cons s ss) τ h R := by
  unfold vS at a
  refine ss_cons.mpr ?_
  unfold vS
  refine RS.sat.mono a fun f h' z => ?_
  cases f with
  | nx τ' => exact b τ' h' z
  | _ => exact z
/-- a for, its body by vSs -/
theorem for_sat (Inv : Nat → Sd → Hd → Prop) (start : Inv 0 τ h) (gd : ∀ i τ h, i ≤ I.items.length → Inv i τ h → I.guard h)
    (turn : ∀ i τ h d, I.items[i]? = some d → Inv i τ h → ∃ τ1, setTg t d τ = some τ1 ∧ vSs C p τ1 h fun f h' => match f with | .nx τ' => Inv (i + 1) τ' h' | .ct τ' => Inv (i + 1) τ' h' | .bk τ' => R (.nx τ') h' | .rt d => R (.rt d) h')
    (fin : ∀ τ h, Inv I.items.length τ h → R (.nx τ) h) : (forL I t (evSs C p) I.items τ h).sat R := forL_sat Inv start gd (fun i τ h d hd hv => by
    have z := turn i τ h d hd hv
    unfold vSs at z
    exact z) fin
end
end DL

set_option Elab.async false
set_option linter.all false
set_option maxRecDepth 100000
set_option maxHeartbeats 0
namespace DL
open PySem PySem.Spec PyProof.Rows L2
abbrev pTop (i : Nat) : Stmt := PySem.Challenge.pw_sameshape_k74_clashes_and_merged_edits.main.body.getD i (.Pass ⟨0, 0, 0, 0⟩)
def ckOf (N : List Str) (st : Stmt) (free : List Str) (fns : List (Nat × (Str × Nat))) (lam : Bool) : Ck := ⟨N, defScope st, (defScope st).names.filterMap fun p => if p.2 == .cell then some p.1 else none, free, fns, lam⟩
def dOf (x : Str) (st : Stmt) : He.DefD := ⟨(x, none), x, x, defArgs st, defBody st, defScope st, [], []⟩
-- _law_alike
def nN5 : List Str := ["_law_told", "_law_due_here", "_law_k"]
def pP5 : List Str := ["_law_told", "_law_due_here"]
def bB5 : ISs := (.cons (.iff (.isi (.var 1) .tup) (.cons (.iff (.or (.cons (.nt (.isi (.var 0) .tup)) (.cons (.cmp .ne (.bc .len (.cons (.var 0) .nil)) (.bc .len (.cons (.var 1) .nil))) .nil))) (.cons (.ret (.bl false)) .nil) .nil) (.cons (.ret (.cmp .eq (.bc .len (.cons (.comp (.name 2) [2] (.rng1 (.bc .len (.cons (.var 1) .nil))) (.yes (.nt (.call 5 (.cons (.ix (.var 0) (.var 2)) (.cons (.ix (.var 1) (.var 2)) .nil))))) (.var 2)) .nil)) (.int 0))) .nil)) .nil) (.cons (.iff (.cmp .is (.var 1) .non) (.cons (.ret (.cmp .is (.var 0) .non)) .nil) .nil) (.cons (.iff (.isi (.var 1) .str) (.cons (.ret (.and (.cons (.isi (.var 0) .str) (.cons (.cmp .eq (.var 0) (.var 1)) .nil)))) .nil) .nil) (.cons (.ret (.and (.cons (.isi (.var 0) .int) (.cons (.cmp .eq (.isi (.var 0) .bl) (.isi (.var 1) .bl)) (.cons (.cmp .eq (.var 0) (.var 1)) .nil))))) .nil))))
def cC5 : Ck := ckOf nN5 (pTop 7) ["isinstance", "bool", "int", "str", "tuple", "len", "range"] [(5, ("_law_alike", 2))] false
theorem m5 : mSs cC5 bB5 (defBody (pTop 7)) = true := by decide +kernel
theorem s5 : fnScB nN5 pP5 (defScope (pTop 7)) = true := by decide +kernel
noncomputable def tT5 (F : Fn) : Tab := fun i => match i with | 5 => F  | _ => fun _ _ => .bad
noncomputable def fG5 : Nat → Fn
  | 0 => fun _ _ => .bad
  | n + 1 => runP (tT5 (fG5 n)) bB5 3 2
noncomputable def fF5 : Fn := fG5 8
-- _law_priority
def nN10 : List Str := ["_law_item"]
def pP10 : List Str := ["_law_item"]
def bB10 : ISs := (.cons (.ret (.ix (.var 0) (.int 0))) .nil)
def cC10 : Ck := ckOf nN10 (pTop 12) [] [] false
theorem m10 : mSs cC10 bB10 (defBody (pTop 12)) = true := by decide +kernel
theorem s10 : fnScB nN10 pP10 (defScope (pTop 12)) = true := by decide +kernel
noncomputable def tT10 : Tab := fun i => match i with  | _ => fun _ _ => .bad
noncomputable def fF10 : Fn := runP tT10 bB10 1 1
-- _law_due
def nN13 : List Str := ["_law_ours", "_law_theirs", "_law_pairs", "_law_i", "_law_j", "_law_touch", "_law_rest", "_law_edit"]
def pP13 : List Str := ["_law_ours", "_law_theirs"]
def bB13 : ISs := (.cons (.set 2 (.lst .nil)) (.cons (.forin (.name 3) (.rng1 (.bc .len (.cons (.var 0) .nil))) (.cons (.forin (.name 4) (.rng1 (.bc .len (.cons (.var 1) .nil))) (.cons (.set 5 (.and (.cons (.cmp .le (.ix (.ix (.var 0) (.var 3)) (.int 0)) (.ix (.ix (.var 1) (.var 4)) (.int 1))) (.cons (.cmp .le (.ix (.ix (.var 1) (.var 4)) (.int 0)) (.ix (.ix (.var 0) (.var 3)) (.int 1))) .nil)))) (.cons (.iff (.and (.cons (.var 5) (.cons (.cmp .ne (.ix (.var 0) (.var 3)) (.ix (.var 1) (.var 4))) .nil))) (.cons (.expr (.mth .append (.var 2) (.cons (.tup (.cons (.var 3) (.cons (.var 4) .nil))) .nil))) .nil) .nil) .nil))) .nil)) (.cons (.iff (.cmp .gt (.bc .len (.cons (.var 2) .nil)) (.int 0)) (.cons (.ret (.tup (.cons (.bc .tuple (.cons (.var 2) .nil)) (.cons .non .nil)))) .nil) .nil) (.cons (.setc 6 (.name 7) [7] (.seq (.var 1)) (.yes (.cmp .notin (.var 7) (.var 0))) (.var 7)) (.cons (.ret (.tup (.cons (.tup .nil) (.cons (.bc .tuple (.cons (.sortk (.op2 .add (.bc .list (.cons (.var 0) .nil)) (.var 6)) 10) .nil)) .nil)))) .nil)))))
def cC13 : Ck := ckOf nN13 (pTop 15) ["tuple", "sorted", "list", "len", "range"] [(10, ("_law_priority", 1))] false
theorem m13 : mSs cC13 bB13 (defBody (pTop 15)) = true := by decide +kernel
theorem s13 : fnScB nN13 pP13 (defScope (pTop 15)) = true := by decide +kernel
noncomputable def tT13 : Tab := fun i => match i with | 10 => fF10 | _ => fun _ _ => .bad
noncomputable def fF13 : Fn := runP tT13 bB13 8 2
-- clash
def nN0 : List Str := ["edit", "other"]
def pP0 : List Str := ["edit", "other"]
def bB0 : ISs := (.cons (.ret (.and (.cons (.cmp .le (.ix (.var 0) (.int 0)) (.ix (.var 1) (.int 1))) (.cons (.cmp .le (.ix (.var 1) (.int 0)) (.ix (.var 0) (.int 1))) (.cons (.cmp .ne (.var 0) (.var 1)) .nil))))) .nil)
def cC0 : Ck := ckOf nN0 (pTop 1) [] [] false
theorem m0 : mSs cC0 bB0 (defBody (pTop 1)) = true := by decide +kernel
theorem s0 : fnScB nN0 pP0 (defScope (pTop 1)) = true := by decide +kernel
noncomputable def tT0 : Tab := fun i => match i with  | _ => fun _ _ => .bad
noncomputable def fF0 : Fn := runP tT0 bB0 2 2
-- clashes
def nN1 : List Str := ["ours", "theirs", "found", "place", "edit", "behind", "other"]
def pP1 : List Str := ["ours", "theirs"]
def bB1 : ISs := (.cons (.set 2 (.lst .nil)) (.cons (.forin (.tup [3, 4]) (.enum (.var 0)) (.cons (.forin (.tup [5, 6]) (.enum (.var 1)) (.cons (.iff (.call 0 (.cons (.var 4) (.cons (.var 6) .nil))) (.cons (.expr (.mth .append (.var 2) (.cons (.tup (.cons (.var 3) (.cons (.var 5) .nil))) .nil))) .nil) .nil) .nil)) .nil)) (.cons (.ret (.bc .tuple (.cons (.var 2) .nil))) .nil)))
def cC1 : Ck := ckOf nN1 (pTop 2) ["tuple", "enumerate"] [(0, ("clash", 2))] false
theorem m1 : mSs cC1 bB1 (defBody (pTop 2)) = true := by decide +kernel
theorem s1 : fnScB nN1 pP1 (defScope (pTop 2)) = true := by decide +kernel
noncomputable def tT1 : Tab := fun i => match i with | 0 => fF0 | _ => fun _ _ => .bad
noncomputable def fF1 : Fn := runP tT1 bB1 7 2
-- merged_edits
def nN2 : List Str := ["ours", "theirs", "new", "edit"]
def pP2 : List Str := ["ours", "theirs"]
def bB2 : ISs := (.cons (.iff (.call 1 (.cons (.var 0) (.cons (.var 1) .nil))) (.cons (.ret .non) .nil) .nil) (.cons (.setc 2 (.name 3) [3] (.seq (.var 1)) (.yes (.cmp .notin (.var 3) (.var 0))) (.var 3)) (.cons (.ret (.bc .tuple (.cons (.sortl (.op2 .add (.bc .list (.cons (.var 0) .nil)) (.var 2)) (.ix (.var 0) (.int 0))) .nil))) .nil)))
def cC2 : Ck := ckOf nN2 (pTop 3) ["tuple", "sorted", "list"] [(1, ("clashes", 2))] true
theorem m2 : mSs cC2 bB2 (defBody (pTop 3)) = true := by decide +kernel
theorem s2 : fnScB nN2 pP2 (defScope (pTop 3)) = true := by decide +kernel
noncomputable def tT2 : Tab := fun i => match i with | 1 => fF1 | _ => fun _ _ => .bad
noncomputable def fF2 : Fn := runP tT2 bB2 4 2
-- _law_draw
def nN4 : List Str := ["_law_tape_here", "_law_many", "_law_place", "_law_number"]
def pP4 : List Str := ["_law_tape_here", "_law_many"]
def bB4 : ISs := (.cons (.iff (.cmp .eq (.ix (.var 0) (.int 2)) (.int 0)) (.cons (.set 2 (.ix (.var 0) (.int 1))) (.cons (.set 3 (.int 0)) (.cons (.iff (.cmp .lt (.var 2) (.bc .len (.cons (.ix (.var 0) (.int 0)) .nil))) (.cons (.set 3 (.bc .abs (.cons (.bc .int (.cons (.ix (.ix (.var 0) (.int 0)) (.var 2)) .nil)) .nil))) .nil) (.cons (.setix (.var 0) (.int 3) (.op2 .mod (.bc .int (.cons (.op2 .add (.op2 .add (.op2 .mul (.ix (.var 0) (.int 3)) (.int 48271)) (.var 2)) (.int 1)) .nil)) (.int 2147483647))) (.cons (.set 3 (.ix (.var 0) (.int 3))) .nil))) (.cons (.setix (.var 0) (.int 1) (.op2 .add (.var 2) (.int 1))) (.cons (.iff (.cmp .lt (.var 3) (.op2 .pow (.int 10) (.int 18))) (.cons (.set 3 (.op2 .mod (.bc .int (.cons (.op2 .add (.op2 .add (.op2 .mul (.var 3) (.int 48271)) (.op2 .mul (.var 2) (.int 69621))) (.int 5)) .nil)) (.int 2147483647))) (.cons (.set 3 (.op2 .mod (.bc .int (.cons (.op2 .mul (.var 3) (.int 69621)) .nil)) (.int 2147483629))) (.cons (.ret (.op2 .mod (.bc .int (.cons (.var 3) .nil)) (.bc .max2 (.cons (.var 1) (.cons (.int 1) .nil))))) .nil))) .nil) (.cons (.setix (.var 0) (.int 2) (.var 3)) .nil)))))) .nil) (.cons (.set 3 (.ix (.var 0) (.int 2))) (.cons (.setix (.var 0) (.int 2) (.op2 .div (.var 3) (.bc .max2 (.cons (.var 1) (.cons (.int 2) .nil))))) (.cons (.ret (.op2 .mod (.bc .int (.cons (.var 3) .nil)) (.bc .max2 (.cons (.var 1) (.cons (.int 1) .nil))))) .nil))))
def cC4 : Ck := ckOf nN4 (pTop 6) ["int", "max", "len", "abs"] [] false
theorem m4 : mSs cC4 bB4 (defBody (pTop 6)) = true := by decide +kernel
theorem s4 : fnScB nN4 pP4 (defScope (pTop 6)) = true := by decide +kernel
noncomputable def tT4 : Tab := fun i => match i with  | _ => fun _ _ => .bad
noncomputable def fF4 : Fn := runP tT4 bB4 4 2
-- _law_drawn_edits
def nN11 : List Str := ["_law_tape_here", "_law_base", "_law_pool_here", "_law_most", "_law_edits", "_law_place", "_law_k", "_law_start", "_law_end", "_law_inserted", "_law_i"]
def pP11 : List Str := ["_law_tape_here", "_law_base", "_law_pool_here", "_law_most"]
def bB11 : ISs := (.cons (.set 4 (.lst .nil)) (.cons (.set 5 (.int 0)) (.cons (.forin (.name 6) (.rng1 (.var 3)) (.cons (.set 7 (.op2 .add (.var 5) (.call 4 (.cons (.var 0) (.cons (.int 4) .nil))))) (.cons (.set 8 (.op2 .add (.var 7) (.ix (.lst (.cons (.int 0) (.cons (.int 0) (.cons (.int 1) (.cons (.int 2) (.cons (.int 3) .nil)))))) (.call 4 (.cons (.var 0) (.cons (.int 5) .nil)))))) (.cons (.set 9 (.bc .tuple (.cons (.comp (.name 10) [10] (.rng1 (.call 4 (.cons (.var 0) (.cons (.int 4) .nil)))) .no (.ix (.var 2) (.call 4 (.cons (.var 0) (.cons (.bc .len (.cons (.var 2) .nil)) .nil))))) .nil))) (.cons (.iff (.and (.cons (.cmp .eq (.var 7) (.var 8)) (.cons (.cmp .eq (.bc .len (.cons (.var 9) .nil)) (.int 0)) .nil))) (.cons (.set 9 (.tup (.cons (.ix (.var 2) (.int 0)) .nil))) .nil) .nil) (.cons (.iff (.cmp .le (.var 8) (.bc .len (.cons (.var 1) .nil))) (.cons (.expr (.mth .append (.var 4) (.cons (.tup (.cons (.var 7) (.cons (.var 8) (.cons (.var 9) .nil)))) .nil))) (.cons (.set 5 (.op2 .add (.var 8) (.int 1))) .nil)) .nil) .nil)))))) (.cons (.ret (.bc .tuple (.cons (.var 4) .nil))) .nil))))
def cC11 : Ck := ckOf nN11 (pTop 13) ["tuple", "range", "len"] [(4, ("_law_draw", 2))] false
theorem m11 : mSs cC11 bB11 (defBody (pTop 13)) = true := by decide +kernel
theorem s11 : fnScB nN11 pP11 (defScope (pTop 13)) = true := by decide +kernel
noncomputable def tT11 : Tab := fun i => match i with | 4 => fF4 | _ => fun _ _ => .bad
noncomputable def fF11 : Fn := runP tT11 bB11 11 4
-- _law_are_edits
def nN12 : List Str := ["_law_edits", "_law_size", "_law_place", "_law_edit"]
def pP12 : List Str := ["_law_edits", "_law_size"]
def bB12 : ISs := (.cons (.set 2 (.neg (.int 1))) (.cons (.forin (.name 3) (.seq (.var 0)) (.cons (.iff (.nt (.and (.cons (.cmp .lt (.var 2) (.ix (.var 3) (.int 0))) (.cons (.cmp .le (.ix (.var 3) (.int 0)) (.ix (.var 3) (.int 1))) (.cons (.cmp .le (.ix (.var 3) (.int 1)) (.var 1)) .nil))))) (.cons (.ret (.bl false)) .nil) .nil) (.cons (.iff (.and (.cons (.cmp .eq (.ix (.var 3) (.int 0)) (.ix (.var 3) (.int 1))) (.cons (.cmp .eq (.bc .len (.cons (.ix (.var 3) (.int 2)) .nil)) (.int 0)) .nil))) (.cons (.ret (.bl false)) .nil) .nil) (.cons (.set 2 (.ix (.var 3) (.int 1))) .nil)))) (.cons (.ret (.bl true)) .nil)))
def cC12 : Ck := ckOf nN12 (pTop 14) ["len"] [] false
theorem m12 : mSs cC12 bB12 (defBody (pTop 14)) = true := by decide +kernel
theorem s12 : fnScB nN12 pP12 (defScope (pTop 14)) = true := by decide +kernel
noncomputable def tT12 : Tab := fun i => match i with  | _ => fun _ _ => .bad
noncomputable def fF12 : Fn := runP tT12 bB12 4 2
-- _law_contents
def nN9 : List Str := ["_law_tape_here", "_law_pool_here", "_law_most", "_law_size", "_law_shape", "_law_first", "_law_part", "_law_found", "_law_k", "_law_many", "_law_element_here"]
def pP9 : List Str := ["_law_tape_here", "_law_pool_here", "_law_most"]
def bB9 : ISs := (.cons (.set 3 (.call 4 (.cons (.var 0) (.cons (.op2 .add (.var 2) (.int 1)) .nil)))) (.cons (.iff (.cmp .eq (.call 4 (.cons (.var 0) (.cons (.int 4) .nil))) (.int 0)) (.cons (.set 3 (.ix (.lst (.cons (.int 0) (.cons (.int 1) (.cons (.int 2) (.cons (.var 2) .nil))))) (.call 4 (.cons (.var 0) (.cons (.int 4) .nil))))) .nil) .nil) (.cons (.set 4 (.call 4 (.cons (.var 0) (.cons (.int 4) .nil)))) (.cons (.set 5 (.call 4 (.cons (.var 0) (.cons (.int 40) .nil)))) (.cons (.iff (.cmp .eq (.var 4) (.int 0)) (.cons (.ret (.bc .tuple (.cons (.comp (.name 8) [8] (.rng1 (.var 3)) .no (.op2 .add (.var 5) (.var 8))) .nil))) .nil) .nil) (.cons (.iff (.cmp .eq (.var 4) (.int 1)) (.cons (.set 6 (.comp (.name 8) [8] (.rng1 (.op2 .add (.int 1) (.op2 .mod (.bc .int (.cons (.var 5) .nil)) (.int 4)))) .no (.ix (.var 1) (.call 4 (.cons (.var 0) (.cons (.bc .len (.cons (.var 1) .nil)) .nil)))))) (.cons (.ret (.bc .tuple (.cons (.comp (.name 8) [8] (.rng1 (.var 3)) .no (.ix (.var 6) (.op2 .mod (.bc .int (.cons (.var 8) .nil)) (.bc .len (.cons (.var 6) .nil))))) .nil))) .nil)) .nil) (.cons (.set 7 (.lst .nil)) (.cons (.forin (.name 8) (.rng1 (.var 3)) (.cons (.iff (.cmp .lt (.bc .len (.cons (.var 7) .nil)) (.var 3)) (.cons (.set 9 (.int 1)) (.cons (.iff (.cmp .eq (.var 4) (.int 2)) (.cons (.set 9 (.op2 .add (.int 1) (.call 4 (.cons (.var 0) (.cons (.int 4) .nil))))) .nil) .nil) (.cons (.set 10 (.ix (.var 1) (.call 4 (.cons (.var 0) (.cons (.bc .len (.cons (.var 1) .nil)) .nil))))) (.cons (.set 7 (.op2 .add (.var 7) (.op2 .mul (.lst (.cons (.var 10) .nil)) (.var 9)))) .nil)))) .nil) .nil)) (.cons (.ret (.bc .tuple (.cons (.sl (.var 7) .no (.yes (.var 3))) .nil))) .nil)))))))))
def cC9 : Ck := ckOf nN9 (pTop 11) ["tuple", "range", "len", "int"] [(4, ("_law_draw", 2))] false
theorem m9 : mSs cC9 bB9 (defBody (pTop 11)) = true := by decide +kernel
theorem s9 : fnScB nN9 pP9 (defScope (pTop 11)) = true := by decide +kernel
noncomputable def tT9 : Tab := fun i => match i with | 4 => fF4 | _ => fun _ _ => .bad
noncomputable def fF9 : Fn := runP tT9 bB9 11 3
-- _law_scalar
def nN6 : List Str := ["_law_tape_here", "_law_signs", "_law_share", "_law_number", "_law_text", "_law_k"]
def pP6 : List Str := ["_law_tape_here"]
def bB6 : ISs := (.cons (.set 1 (.str "abcdefghijklmnopqrstuvwxyzABCDEFGHIJKLMNOPQRSTUVWXYZ0123456789 !\"#$&'()*+,-./:;<=>?\x40[\\]^_`{|}~")) (.cons (.set 2 (.call 4 (.cons (.var 0) (.cons (.int 6) .nil)))) (.cons (.iff (.cmp .lt (.var 2) (.int 3)) (.cons (.ret (.op2 .sub (.call 4 (.cons (.var 0) (.cons (.int 9) .nil))) (.int 3))) .nil) .nil) (.cons (.iff (.cmp .eq (.var 2) (.int 3)) (.cons (.set 3 (.op2 .sub (.call 4 (.cons (.var 0) (.cons (.int 2000001) .nil))) (.int 1000000))) (.cons (.ret (.ix (.lst (.cons (.var 3) (.cons (.var 3) (.cons (.op2 .mul (.var 3) (.op2 .pow (.int 10) (.int 9))) (.cons (.op2 .pow (.int 10) (.int 15)) (.cons (.neg (.op2 .pow (.int 10) (.int 15))) .nil)))))) (.call 4 (.cons (.var 0) (.cons (.int 5) .nil))))) .nil)) .nil) (.cons (.set 4 (.ix (.lst (.cons (.str "") (.cons (.str "") (.cons (.str "9") (.cons (.str "same beginning") .nil))))) (.call 4 (.cons (.var 0) (.cons (.int 4) .nil))))) (.cons (.forin (.name 5) (.rng1 (.ix (.lst (.cons (.int 0) (.cons (.int 1) (.cons (.int 1) (.cons (.int 2) (.cons (.int 3) (.cons (.int 6) .nil))))))) (.call 4 (.cons (.var 0) (.cons (.int 6) .nil))))) (.cons (.set 4 (.op2 .add (.var 4) (.ix (.var 1) (.call 4 (.cons (.var 0) (.cons (.int 94) .nil)))))) .nil)) (.cons (.ret (.var 4)) .nil)))))))
def cC6 : Ck := ckOf nN6 (pTop 8) ["range"] [(4, ("_law_draw", 2))] false
theorem m6 : mSs cC6 bB6 (defBody (pTop 8)) = true := by decide +kernel
theorem s6 : fnScB nN6 pP6 (defScope (pTop 8)) = true := by decide +kernel
noncomputable def tT6 : Tab := fun i => match i with | 4 => fF4 | _ => fun _ _ => .bad
noncomputable def fF6 : Fn := runP tT6 bB6 6 1
-- _law_element
def nN7 : List Str := ["_law_tape_here", "_law_first"]
def pP7 : List Str := ["_law_tape_here"]
def bB7 : ISs := (.cons (.iff (.cmp .eq (.call 4 (.cons (.var 0) (.cons (.int 4) .nil))) (.int 0)) (.cons (.set 1 (.call 6 (.cons (.var 0) .nil))) (.cons (.ret (.tup (.cons (.var 1) (.cons (.call 6 (.cons (.var 0) .nil)) .nil)))) .nil)) .nil) (.cons (.ret (.call 6 (.cons (.var 0) .nil))) .nil))
def cC7 : Ck := ckOf nN7 (pTop 9) [] [(6, ("_law_scalar", 1)), (4, ("_law_draw", 2))] false
theorem m7 : mSs cC7 bB7 (defBody (pTop 9)) = true := by decide +kernel
theorem s7 : fnScB nN7 pP7 (defScope (pTop 9)) = true := by decide +kernel
noncomputable def tT7 : Tab := fun i => match i with | 6 => fF6 | 4 => fF4 | _ => fun _ _ => .bad
noncomputable def fF7 : Fn := runP tT7 bB7 2 1
-- _law_pool
def nN8 : List Str := ["_law_tape_here", "_law_k"]
def pP8 : List Str := ["_law_tape_here"]
def bB8 : ISs := (.cons (.ret (.comp (.name 1) [1] (.rng1 (.op2 .add (.int 1) (.call 4 (.cons (.var 0) (.cons (.int 6) .nil))))) .no (.call 7 (.cons (.var 0) .nil)))) .nil)
def cC8 : Ck := ckOf nN8 (pTop 10) ["range"] [(4, ("_law_draw", 2)), (7, ("_law_element", 1))] false
theorem m8 : mSs cC8 bB8 (defBody (pTop 10)) = true := by decide +kernel
theorem s8 : fnScB nN8 pP8 (defScope (pTop 10)) = true := by decide +kernel
noncomputable def tT8 : Tab := fun i => match i with | 4 => fF4 | 7 => fF7 | _ => fun _ _ => .bad
noncomputable def fF8 : Fn := runP tT8 bB8 2 1
-- _law_tape
def nN3 : List Str := ["_law_script", "_law_total", "_law_cell"]
def pP3 : List Str := ["_law_script"]
def bB3 : ISs := (.cons (.set 1 (.int 7)) (.cons (.forin (.name 2) (.seq (.var 0)) (.cons (.set 1 (.op2 .mod (.bc .int (.cons (.op2 .add (.op2 .mul (.var 1) (.int 31)) (.bc .abs (.cons (.bc .int (.cons (.var 2) .nil)) .nil))) .nil)) (.int 2147483647))) .nil)) (.cons (.ret (.lst (.cons (.bc .list (.cons (.var 0) .nil)) (.cons (.int 0) (.cons (.int 0) (.cons (.var 1) .nil)))))) .nil)))
def cC3 : Ck := ckOf nN3 (pTop 5) ["list", "int", "abs"] [] false
theorem m3 : mSs cC3 bB3 (defBody (pTop 5)) = true := by decide +kernel
theorem s3 : fnScB nN3 pP3 (defScope (pTop 5)) = true := by decide +kernel
noncomputable def tT3 : Tab := fun i => match i with  | _ => fun _ _ => .bad
noncomputable def fF3 : Fn := runP tT3 bB3 3 1
-- law
def nN14 : List Str := ["_law_script", "_law_tape_here", "_law_pool_here", "_law_base", "_law_edits", "_law_ours", "_law_theirs", "_law_choice", "_law_place", "_law_edit", "_law_start", "_law_changed", "_law_pair", "_law_told"]
def pP14 : List Str := ["_law_script"]
def bB14 : ISs := (.cons (.set 1 (.call 3 (.cons (.var 0) .nil))) (.cons (.set 2 (.call 8 (.cons (.var 1) .nil))) (.cons (.set 3 (.call 9 (.cons (.var 1) (.cons (.var 2) (.cons (.int 14) .nil))))) (.cons (.set 4 (.call 11 (.cons (.var 1) (.cons (.var 3) (.cons (.var 2) (.cons (.int 5) .nil)))))) (.cons (.set 5 (.bc .tuple (.cons (.comp (.name 9) [9] (.seq (.var 4)) (.yes (.cmp .gt (.call 4 (.cons (.var 1) (.cons (.int 3) .nil))) (.int 0))) (.var 9)) .nil))) (.cons (.setc 6 (.name 9) [9] (.seq (.var 4)) (.yes (.cmp .gt (.call 4 (.cons (.var 1) (.cons (.int 3) .nil))) (.int 0))) (.var 9)) (.cons (.set 7 (.call 4 (.cons (.var 1) (.cons (.int 6) .nil)))) (.cons (.iff (.cmp .eq (.var 7) (.int 0)) (.cons (.set 6 (.bc .list (.cons (.call 11 (.cons (.var 1) (.cons (.var 3) (.cons (.var 2) (.cons (.int 4) .nil))))) .nil))) .nil) (.cons (.iff (.and (.cons (.cmp .lt (.var 7) (.int 4)) (.cons (.cmp .gt (.bc .len (.cons (.var 6) .nil)) (.int 0)) .nil))) (.cons (.set 8 (.call 4 (.cons (.var 1) (.cons (.bc .len (.cons (.var 6) .nil)) .nil)))) (.cons (.set 9 (.ix (.var 6) (.var 8))) (.cons (.set 10 (.bc .max2 (.cons (.op2 .sub (.ix (.var 9) (.int 0)) (.call 4 (.cons (.var 1) (.cons (.int 2) .nil)))) (.cons (.int 0) .nil)))) (.cons (.set 11 (.bc .list (.cons (.var 6) .nil))) (.cons (.setix (.var 11) (.var 8) (.tup (.cons (.var 10) (.cons (.op2 .add (.ix (.var 9) (.int 1)) (.call 4 (.cons (.var 1) (.cons (.int 2) .nil)))) (.cons (.sl (.op2 .add (.ix (.var 9) (.int 2)) (.tup (.cons (.ix (.var 2) (.int 0)) .nil))) (.yes (.call 4 (.cons (.var 1) (.cons (.int 2) .nil)))) .no) .nil))))) (.cons (.iff (.call 12 (.cons (.var 11) (.cons (.bc .len (.cons (.var 3) .nil)) .nil))) (.cons (.set 6 (.var 11)) .nil) .nil) .nil)))))) .nil) .nil)) (.cons (.forin (.name 12) (.seq (.lst (.cons (.tup (.cons (.var 5) (.cons (.bc .tuple (.cons (.var 6) .nil)) .nil))) (.cons (.tup (.cons (.bc .tuple (.cons (.var 6) .nil)) (.cons (.var 5) .nil))) (.cons (.tup (.cons (.var 5) (.cons (.var 5) .nil))) .nil))))) (.cons (.set 13 (.tup (.cons (.call 1 (.cons (.ix (.var 12) (.int 0)) (.cons (.ix (.var 12) (.int 1)) .nil))) (.cons (.call 2 (.cons (.ix (.var 12) (.int 0)) (.cons (.ix (.var 12) (.int 1)) .nil))) .nil)))) (.cons (.iff (.nt (.call 5 (.cons (.var 13) (.cons (.call 13 (.cons (.ix (.var 12) (.int 0)) (.cons (.ix (.var 12) (.int 1)) .nil))) .nil)))) (.cons (.ret (.bl false)) .nil) .nil) .nil))) (.cons (.ret (.bl true)) .nil))))))))))
def cC14 : Ck := ckOf nN14 (pTop 16) ["tuple", "list", "len", "max"] [(5, ("_law_alike", 2)), (13, ("_law_due", 2)), (2, ("merged_edits", 2)), (1, ("clashes", 2)), (11, ("_law_drawn_edits", 4)), (12, ("_law_are_edits", 2)), (4, ("_law_draw", 2)), (9, ("_law_contents", 3)), (8, ("_law_pool", 1)), (3, ("_law_tape", 1))] false
theorem m14 : mSs cC14 bB14 (defBody (pTop 16)) = true := by decide +kernel
theorem s14 : fnScB nN14 pP14 (defScope (pTop 16)) = true := by decide +kernel
noncomputable def tT14 : Tab := fun i => match i with | 5 => fF5 | 13 => fF13 | 2 => fF2 | 1 => fF1 | 11 => fF11 | 12 => fF12 | 4 => fF4 | 9 => fF9 | 8 => fF8 | 3 => fF3 | _ => fun _ _ => .bad
noncomputable def fF14 : Fn := runP tT14 bB14 14 1
theorem fnsC5 {Fx : Str → Nat → Fn → Prop} {T : Tab} {f : Nat} {x : Str} {n : Nat} (z : cC5.fns.lookup f = some (x, n)) (a0 : Fx "_law_alike" 2 (T 5)) : Fx x n (T f) := by
  have z : List.lookup f [(5, (("_law_alike" : Str), 2))] = some (x, n) := z
  rw [List.lookup_cons] at z; by_cases e0 : f = 5
  · subst e0; simp only [beq_self_eq_true] at z; cases z; exact a0
  rw [beq_false_of_ne e0] at z; dsimp only at z
  cases z
theorem fnsC13 {Fx : Str → Nat → Fn → Prop} {T : Tab} {f : Nat} {x : Str} {n : Nat} (z : cC13.fns.lookup f = some (x, n)) (a0 : Fx "_law_priority" 1 (T 10)) : Fx x n (T f) := by
  have z : List.lookup f [(10, (("_law_priority" : Str), 1))] = some (x, n) := z
  rw [List.lookup_cons] at z; by_cases e0 : f = 10
  · subst e0; simp only [beq_self_eq_true] at z; cases z; exact a0
  rw [beq_false_of_ne e0] at z; dsimp only at z
  cases z
theorem fnsC1 {Fx : Str → Nat → Fn → Prop} {T : Tab} {f : Nat} {x : Str} {n : Nat} (z : cC1.fns.lookup f = some (x, n)) (a0 : Fx "clash" 2 (T 0)) : Fx x n (T f) := by
  have z : List.lookup f [(0, (("clash" : Str), 2))] = some (x, n) := z
  rw [List.lookup_cons] at z; by_cases e0 : f = 0
  · subst e0; simp only [beq_self_eq_true] at z; cases z; exact a0
  rw [beq_false_of_ne e0] at z; dsimp only at z
  cases z
theorem fnsC2 {Fx : Str → Nat → Fn → Prop} {T : Tab} {f : Nat} {x : Str} {n : Nat} (z : cC2.fns.lookup f = some (x, n)) (a0 : Fx "clashes" 2 (T 1)) : Fx x n (T f) := by
  have z : List.lookup f [(1, (("clashes" : Str), 2))] = some (x, n) := z
  rw [List.lookup_cons] at z; by_cases e0 : f = 1
  · subst e0; simp only [beq_self_eq_true] at z; cases z; exact a0
  rw [beq_false_of_ne e0] at z; dsimp only at z
  cases z
theorem fnsC11 {Fx : Str → Nat → Fn → Prop} {T : Tab} {f : Nat} {x : Str} {n : Nat} (z : cC11.fns.lookup f = some (x, n)) (a0 : Fx "_law_draw" 2 (T 4)) : Fx x n (T f) := by
  have z : List.lookup f [(4, (("_law_draw" : Str), 2))] = some (x, n) := z
  rw [List.lookup_cons] at z; by_cases e0 : f = 4
  · subst e0; simp only [beq_self_eq_true] at z; cases z; exact a0
  rw [beq_false_of_ne e0] at z; dsimp only at z
  cases z
theorem fnsC9 {Fx : Str → Nat → Fn → Prop} {T : Tab} {f : Nat} {x : Str} {n : Nat} (z : cC9.fns.lookup f = some (x, n)) (a0 : Fx "_law_draw" 2 (T 4)) : Fx x n (T f) := by
  have z : List.lookup f [(4, (("_law_draw" : Str), 2))] = some (x, n) := z
  rw [List.lookup_cons] at z; by_cases e0 : f = 4
  · subst e0; simp only [beq_self_eq_true] at z; cases z; exact a0
  rw [beq_false_of_ne e0] at z; dsimp only at z
  cases z
theorem fnsC6 {Fx : Str → Nat → Fn → Prop} {T : Tab} {f : Nat} {x : Str} {n : Nat} (z : cC6.fns.lookup f = some (x, n)) (a0 : Fx "_law_draw" 2 (T 4)) : Fx x n (T f) := by
  have z : List.lookup f [(4, (("_law_draw" : Str), 2))] = some (x, n) := z
  rw [List.lookup_cons] at z; by_cases e0 : f = 4
  · subst e0; simp only [beq_self_eq_true] at z; cases z; exact a0
  rw [beq_false_of_ne e0] at z; dsimp only at z
  cases z
theorem fnsC7 {Fx : Str → Nat → Fn → Prop} {T : Tab} {f : Nat} {x : Str} {n : Nat} (z : cC7.fns.lookup f = some (x, n)) (a0 : Fx "_law_scalar" 1 (T 6)) (a1 : Fx "_law_draw" 2 (T 4)) : Fx x n (T f) := by
  have z : List.lookup f [(6, (("_law_scalar" : Str), 1)), (4, (("_law_draw" : Str), 2))] = some (x, n) := z
  rw [List.lookup_cons] at z; by_cases e0 : f = 6
  · subst e0; simp only [beq_self_eq_true] at z; cases z; exact a0
  rw [beq_false_of_ne e0] at z; dsimp only at z
  rw [List.lookup_cons] at z; by_cases e1 : f = 4
  · subst e1; simp only [beq_self_eq_true] at z; cases z; exact a1
  rw [beq_false_of_ne e1] at z; dsimp only at z
  cases z
theorem fnsC8 {Fx : Str → Nat → Fn → Prop} {T : Tab} {f : Nat} {x : Str} {n : Nat} (z : cC8.fns.lookup f = some (x, n)) (a0 : Fx "_law_draw" 2 (T 4)) (a1 : Fx "_law_element" 1 (T 7)) : Fx x n (T f) := by
  have z : List.lookup f [(4, (("_law_draw" : Str), 2)), (7, (("_law_element" : Str), 1))] = some (x, n) := z
  rw [List.lookup_cons] at z; by_cases e0 : f = 4
  · subst e0; simp only [beq_self_eq_true] at z; cases z; exact a0
  rw [beq_false_of_ne e0] at z; dsimp only at z
  rw [List.lookup_cons] at z; by_cases e1 : f = 7
  · subst e1; simp only [beq_self_eq_true] at z; cases z; exact a1
  rw [beq_false_of_ne e1] at z; dsimp only at z
  cases z
theorem fnsC14 {Fx : Str → Nat → Fn → Prop} {T : Tab} {f : Nat} {x : Str} {n : Nat} (z : cC14.fns.lookup f = some (x, n)) (a0 : Fx "_law_alike" 2 (T 5)) (a1 : Fx "_law_due" 2 (T 13)) (a2 : Fx "merged_edits" 2 (T 2)) (a3 : Fx "clashes" 2 (T 1)) (a4 : Fx "_law_drawn_edits" 4 (T 11)) (a5 : Fx "_law_are_edits" 2 (T 12)) (a6 : Fx "_law_draw" 2 (T 4)) (a7 : Fx "_law_contents" 3 (T 9)) (a8 : Fx "_law_pool" 1 (T 8)) (a9 : Fx "_law_tape" 1 (T 3)) : Fx x n (T f) := by
  have z : List.lookup f [(5, (("_law_alike" : Str), 2)), (13, (("_law_due" : Str), 2)), (2, (("merged_edits" : Str), 2)), (1, (("clashes" : Str), 2)), (11, (("_law_drawn_edits" : Str), 4)), (12, (("_law_are_edits" : Str), 2)), (4, (("_law_draw" : Str), 2)), (9, (("_law_contents" : Str), 3)), (8, (("_law_pool" : Str), 1)), (3, (("_law_tape" : Str), 1))] = some (x, n) := z
  rw [List.lookup_cons] at z; by_cases e0 : f = 5
  · subst e0; simp only [beq_self_eq_true] at z; cases z; exact a0
  rw [beq_false_of_ne e0] at z; dsimp only at z
  rw [List.lookup_cons] at z; by_cases e1 : f = 13
  · subst e1; simp only [beq_self_eq_true] at z; cases z; exact a1
  rw [beq_false_of_ne e1] at z; dsimp only at z
  rw [List.lookup_cons] at z; by_cases e2 : f = 2
  · subst e2; simp only [beq_self_eq_true] at z; cases z; exact a2
  rw [beq_false_of_ne e2] at z; dsimp only at z
  rw [List.lookup_cons] at z; by_cases e3 : f = 1
  · subst e3; simp only [beq_self_eq_true] at z; cases z; exact a3
  rw [beq_false_of_ne e3] at z; dsimp only at z
  rw [List.lookup_cons] at z; by_cases e4 : f = 11
  · subst e4; simp only [beq_self_eq_true] at z; cases z; exact a4
  rw [beq_false_of_ne e4] at z; dsimp only at z
  rw [List.lookup_cons] at z; by_cases e5 : f = 12
  · subst e5; simp only [beq_self_eq_true] at z; cases z; exact a5
  rw [beq_false_of_ne e5] at z; dsimp only at z
  rw [List.lookup_cons] at z; by_cases e6 : f = 4
  · subst e6; simp only [beq_self_eq_true] at z; cases z; exact a6
  rw [beq_false_of_ne e6] at z; dsimp only at z
  rw [List.lookup_cons] at z; by_cases e7 : f = 9
  · subst e7; simp only [beq_self_eq_true] at z; cases z; exact a7
  rw [beq_false_of_ne e7] at z; dsimp only at z
  rw [List.lookup_cons] at z; by_cases e8 : f = 8
  · subst e8; simp only [beq_self_eq_true] at z; cases z; exact a8
  rw [beq_false_of_ne e8] at z; dsimp only at z
  rw [List.lookup_cons] at z; by_cases e9 : f = 3
  · subst e9; simp only [beq_self_eq_true] at z; cases z; exact a9
  rw [beq_false_of_ne e9] at z; dsimp only at z
  cases z
def hDefs : List He.DefD := [dOf "_law_alike" (pTop 7), dOf "_law_priority" (pTop 12), dOf "_law_due" (pTop 15), dOf "clash" (pTop 1), dOf "clashes" (pTop 2), dOf "merged_edits" (pTop 3), dOf "_law_draw" (pTop 6), dOf "_law_drawn_edits" (pTop 13), dOf "_law_are_edits" (pTop 14), dOf "_law_contents" (pTop 11), dOf "_law_scalar" (pTop 8), dOf "_law_element" (pTop 9), dOf "_law_pool" (pTop 10), dOf "_law_tape" (pTop 5), dOf "law" (pTop 16)]
def hNames : List Str := ["_law_alike", "_law_priority", "_law_due", "clash", "clashes", "merged_edits", "_law_draw", "_law_drawn_edits", "_law_are_edits", "_law_contents", "_law_scalar", "_law_element", "_law_pool", "_law_tape", "law"]
def hFrees : List Str := ["isinstance", "bool", "int", "str", "tuple", "len", "range", "sorted", "list", "enumerate", "max", "abs"]
def hTf : List He.Defn := [("merged_edits", none)]
section
variable {P : Program} {w : World} {K : PySem.W.Frag} {mg : Str → Option Value} {base : Heap} {g : Gd}
theorem fk5 (F : HFacts hDefs hNames hFrees hTf K mg base g) : FnD P w K mg base 33 g "_law_alike" 2 fF5 := by
  obtain ⟨fd, Fu⟩ := F.defs 0 _ rfl
  have Fu : FunD K "_law_alike" "_law_alike" (defArgs (pTop 7)) (defBody (pTop 7)) (defScope (pTop 7)) [] [] (He.ga K "_law_alike") fd := Fu
  have bd : Binds K fd pP5 [] := Fu.bindsN fun _ _ _ _ _ _ us hl => match us, hl with | [_, _], _ => rfl
  have q : ∀ n, FnD P w K mg base (0 + 1 + 4 * n) g "_law_alike" 2 (fG5 n) := by
    intro n
    induction n with
    | zero => exact fnD_zero Fu (F.glo _ (by decide +kernel)) bd (fnScB_ok s5) 0
    | succ n hR =>
      have a1 : cC5.lam = true → LamOk g base mg fd.code ("_law_alike" ++ ".<locals>.") ((0 + 1 + 4 * n)) := (fun z => absurd z (by decide))
      have a2 : ∀ f x mm, cC5.fns.lookup f = some (x, mm) → FnD P w K mg base ((0 + 1 + 4 * n)) g x mm ((tT5 (fG5 n)) f) := (fun f x mm z => fnsC5 (Fx := FnD P w K mg base (0 + 1 + 4 * n) g) (T := tT5 (fG5 n)) z (hR.mono (by omega)))
      have a3 : ∀ x, cC5.free.contains x = true → mg x = none := (fun x hx => F.fr x (frB (l := cC5.free) (by decide +kernel) x hx))
      have a4 : cC5.N = nN5 := rfl
      have a5 : cC5.sc = defScope (pTop 7) := rfl
      have a6 : mg "_law_alike" = some (.ref (He.ga K "_law_alike")) := F.glo _ (by decide +kernel)
      have a7 := fnScB_ok s5
      exact fnD_run (P := P) (w := w) (base := base) (k := (0 + 1 + 4 * n)) (C := (tT5 (fG5 n))) (body := bB5) Fu a6 bd a7 F.hK a4 a5 m5 a3 a1 a2
  exact (q 8).mono (by omega)
theorem fk10 (F : HFacts hDefs hNames hFrees hTf K mg base g) : FnD P w K mg base 4 g "_law_priority" 1 fF10 := by
  obtain ⟨fd, Fu⟩ := F.defs 1 _ rfl
  have Fu : FunD K "_law_priority" "_law_priority" (defArgs (pTop 12)) (defBody (pTop 12)) (defScope (pTop 12)) [] [] (He.ga K "_law_priority") fd := Fu
  have bd : Binds K fd pP10 [] := Fu.bindsN fun _ _ _ _ _ _ us hl => match us, hl with | [_], _ => rfl
  have a1 : cC10.lam = true → LamOk g base mg fd.code ("_law_priority" ++ ".<locals>.") (0) := (fun z => absurd z (by decide))
  have a2 : ∀ f x mm, cC10.fns.lookup f = some (x, mm) → FnD P w K mg base (0) g x mm (tT10 f) := (fun f x n z => nomatch (show (none : Option (Str × Nat)) = some (x, n) from z))
  have a3 : ∀ x, cC10.free.contains x = true → mg x = none := (fun x hx => F.fr x (frB (l := cC10.free) (by decide +kernel) x hx))
  have a4 : cC10.N = nN10 := rfl
  have a5 : cC10.sc = defScope (pTop 12) := rfl
  have a6 : mg "_law_priority" = some (.ref (He.ga K "_law_priority")) := F.glo _ (by decide +kernel)
  have a7 := fnScB_ok s10
  have a8 := fnD_run (P := P) (w := w) (base := base) (k := 0) (C := tT10) (body := bB10) Fu a6 bd a7 F.hK a4 a5 m10 a3 a1 a2
  exact a8
theorem fk13 (F : HFacts hDefs hNames hFrees hTf K mg base g) : FnD P w K mg base 8 g "_law_due" 2 fF13 := by
  obtain ⟨fd, Fu⟩ := F.defs 2 _ rfl
  have Fu : FunD K "_law_due" "_law_due" (defArgs (pTop 15)) (defBody (pTop 15)) (defScope (pTop 15)) [] [] (He.ga K "_law_due") fd := Fu
  have bd : Binds K fd pP13 [] := Fu.bindsN fun _ _ _ _ _ _ us hl => match us, hl with | [_, _], _ => rfl
  have a1 : cC13.lam = true → LamOk g base mg fd.code ("_law_due" ++ ".<locals>.") (4) := (fun z => absurd z (by decide))
  have a2 : ∀ f x mm, cC13.fns.lookup f = some (x, mm) → FnD P w K mg base (4) g x mm (tT13 f) := (fun f x mm z => fnsC13 (Fx := FnD P w K mg base 4 g) (T := tT13) z ((fk10 F).mono (by omega)))
  have a3 : ∀ x, cC13.free.contains x = true → mg x = none := (fun x hx => F.fr x (frB (l := cC13.free) (by decide +kernel) x hx))
  have a4 : cC13.N = nN13 := rfl
  have a5 : cC13.sc = defScope (pTop 15) := rfl
  have a6 : mg "_law_due" = some (.ref (He.ga K "_law_due")) := F.glo _ (by decide +kernel)
  have a7 := fnScB_ok s13
  have a8 := fnD_run (P := P) (w := w) (base := base) (k := 4) (C := tT13) (body := bB13) Fu a6 bd a7 F.hK a4 a5 m13 a3 a1 a2
  exact a8
theorem fk0 (F : HFacts hDefs hNames hFrees hTf K mg base g) : FnD P w K mg base 4 g "clash" 2 fF0 := by
  obtain ⟨fd, Fu⟩ := F.defs 3 _ rfl
  have Fu : FunD K "clash" "clash" (defArgs (pTop 1)) (defBody (pTop 1)) (defScope (pTop 1)) [] [] (He.ga K "clash") fd := Fu
  have bd : Binds K fd pP0 [] := Fu.bindsN fun _ _ _ _ _ _ us hl => match us, hl with | [_, _], _ => rfl
  have a1 : cC0.lam = true → LamOk g base mg fd.code ("clash" ++ ".<locals>.") (0) := (fun z => absurd z (by decide))
  have a2 : ∀ f x mm, cC0.fns.lookup f = some (x, mm) → FnD P w K mg base (0) g x mm (tT0 f) := (fun f x n z => nomatch (show (none : Option (Str × Nat)) = some (x, n) from z))
  have a3 : ∀ x, cC0.free.contains x = true → mg x = none := (fun x hx => F.fr x (frB (l := cC0.free) (by decide +kernel) x hx))
  have a4 : cC0.N = nN0 := rfl
  have a5 : cC0.sc = defScope (pTop 1) := rfl
  have a6 : mg "clash" = some (.ref (He.ga K "clash")) := F.glo _ (by decide +kernel)
  have a7 := fnScB_ok s0
  have a8 := fnD_run (P := P) (w := w) (base := base) (k := 0) (C := tT0) (body := bB0) Fu a6 bd a7 F.hK a4 a5 m0 a3 a1 a2
  exact a8
theorem fk1 (F : HFacts hDefs hNames hFrees hTf K mg base g) : FnD P w K mg base 8 g "clashes" 2 fF1 := by
  obtain ⟨fd, Fu⟩ := F.defs 4 _ rfl
  have Fu : FunD K "clashes" "clashes" (defArgs (pTop 2)) (defBody (pTop 2)) (defScope (pTop 2)) [] [] (He.ga K "clashes") fd := Fu
  have bd : Binds K fd pP1 [] := Fu.bindsN fun _ _ _ _ _ _ us hl => match us, hl with | [_, _], _ => rfl
  have a1 : cC1.lam = true → LamOk g base mg fd.code ("clashes" ++ ".<locals>.") (4) := (fun z => absurd z (by decide))
  have a2 : ∀ f x mm, cC1.fns.lookup f = some (x, mm) → FnD P w K mg base (4) g x mm (tT1 f) := (fun f x mm z => fnsC1 (Fx := FnD P w K mg base 4 g) (T := tT1) z ((fk0 F).mono (by omega)))
  have a3 : ∀ x, cC1.free.contains x = true → mg x = none := (fun x hx => F.fr x (frB (l := cC1.free) (by decide +kernel) x hx))
  have a4 : cC1.N = nN1 := rfl
  have a5 : cC1.sc = defScope (pTop 2) := rfl
  have a6 : mg "clashes" = some (.ref (He.ga K "clashes")) := F.glo _ (by decide +kernel)
  have a7 := fnScB_ok s1
  have a8 := fnD_run (P := P) (w := w) (base := base) (k := 4) (C := tT1) (body := bB1) Fu a6 bd a7 F.hK a4 a5 m1 a3 a1 a2
  exact a8
theorem fk2 (F : HFacts hDefs hNames hFrees hTf K mg base g) : FnD P w K mg base 12 g "merged_edits" 2 fF2 := by
  obtain ⟨fd, Fu⟩ := F.defs 5 _ rfl
  have Fu : FunD K "merged_edits" "merged_edits" (defArgs (pTop 3)) (defBody (pTop 3)) (defScope (pTop 3)) [] [] (He.ga K "merged_edits") fd := Fu
  have bd : Binds K fd pP2 [] := Fu.bindsN fun _ _ _ _ _ _ us hl => match us, hl with | [_, _], _ => rfl
  have a1 : cC2.lam = true → LamOk g base mg fd.code ("merged_edits" ++ ".<locals>.") (8) := (fun _ => F.lam Fu (by decide +kernel) (by omega))
  have a2 : ∀ f x mm, cC2.fns.lookup f = some (x, mm) → FnD P w K mg base (8) g x mm (tT2 f) := (fun f x mm z => fnsC2 (Fx := FnD P w K mg base 8 g) (T := tT2) z ((fk1 F).mono (by omega)))
  have a3 : ∀ x, cC2.free.contains x = true → mg x = none := (fun x hx => F.fr x (frB (l := cC2.free) (by decide +kernel) x hx))
  have a4 : cC2.N = nN2 := rfl
  have a5 : cC2.sc = defScope (pTop 3) := rfl
  have a6 : mg "merged_edits" = some (.ref (He.ga K "merged_edits")) := F.glo _ (by decide +kernel)
  have a7 := fnScB_ok s2
  have a8 := fnD_run (P := P) (w := w) (base := base) (k := 8) (C := tT2) (body := bB2) Fu a6 bd a7 F.hK a4 a5 m2 a3 a1 a2
  exact a8
theorem fk4 (F : HFacts hDefs hNames hFrees hTf K mg base g) : FnD P w K mg base 4 g "_law_draw" 2 fF4 := by
  obtain ⟨fd, Fu⟩ := F.defs 6 _ rfl
  have Fu : FunD K "_law_draw" "_law_draw" (defArgs (pTop 6)) (defBody (pTop 6)) (defScope (pTop 6)) [] [] (He.ga K "_law_draw") fd := Fu
  have bd : Binds K fd pP4 [] := Fu.bindsN fun _ _ _ _ _ _ us hl => match us, hl with | [_, _], _ => rfl
  have a1 : cC4.lam = true → LamOk g base mg fd.code ("_law_draw" ++ ".<locals>.") (0) := (fun z => absurd z (by decide))
  have a2 : ∀ f x mm, cC4.fns.lookup f = some (x, mm) → FnD P w K mg base (0) g x mm (tT4 f) := (fun f x n z => nomatch (show (none : Option (Str × Nat)) = some (x, n) from z))
  have a3 : ∀ x, cC4.free.contains x = true → mg x = none := (fun x hx => F.fr x (frB (l := cC4.free) (by decide +kernel) x hx))
  have a4 : cC4.N = nN4 := rfl
  have a5 : cC4.sc = defScope (pTop 6) := rfl
  have a6 : mg "_law_draw" = some (.ref (He.ga K "_law_draw")) := F.glo _ (by decide +kernel)
  have a7 := fnScB_ok s4
  have a8 := fnD_run (P := P) (w := w) (base := base) (k := 0) (C := tT4) (body := bB4) Fu a6 bd a7 F.hK a4 a5 m4 a3 a1 a2
  exact a8
theorem fk11 (F : HFacts hDefs hNames hFrees hTf K mg base g) : FnD P w K mg base 8 g "_law_drawn_edits" 4 fF11 := by
  obtain ⟨fd, Fu⟩ := F.defs 7 _ rfl
  have Fu : FunD K "_law_drawn_edits" "_law_drawn_edits" (defArgs (pTop 13)) (defBody (pTop 13)) (defScope (pTop 13)) [] [] (He.ga K "_law_drawn_edits") fd := Fu
  have bd : Binds K fd pP11 [] := Fu.bindsN fun _ _ _ _ _ _ us hl => match us, hl with | [_, _, _, _], _ => rfl
  have a1 : cC11.lam = true → LamOk g base mg fd.code ("_law_drawn_edits" ++ ".<locals>.") (4) := (fun z => absurd z (by decide))
  have a2 : ∀ f x mm, cC11.fns.lookup f = some (x, mm) → FnD P w K mg base (4) g x mm (tT11 f) := (fun f x mm z => fnsC11 (Fx := FnD P w K mg base 4 g) (T := tT11) z ((fk4 F).mono (by omega)))
  have a3 : ∀ x, cC11.free.contains x = true → mg x = none := (fun x hx => F.fr x (frB (l := cC11.free) (by decide +kernel) x hx))
  have a4 : cC11.N = nN11 := rfl
  have a5 : cC11.sc = defScope (pTop 13) := rfl
  have a6 : mg "_law_drawn_edits" = some (.ref (He.ga K "_law_drawn_edits")) := F.glo _ (by decide +kernel)
  have a7 := fnScB_ok s11
  have a8 := fnD_run (P := P) (w := w) (base := base) (k := 4) (C := tT11) (body := bB11) Fu a6 bd a7 F.hK a4 a5 m11 a3 a1 a2
  exact a8
theorem fk12 (F : HFacts hDefs hNames hFrees hTf K mg base g) : FnD P w K mg base 4 g "_law_are_edits" 2 fF12 := by
  obtain ⟨fd, Fu⟩ := F.defs 8 _ rfl
  have Fu : FunD K "_law_are_edits" "_law_are_edits" (defArgs (pTop 14)) (defBody (pTop 14)) (defScope (pTop 14)) [] [] (He.ga K "_law_are_edits") fd := Fu
  have bd : Binds K fd pP12 [] := Fu.bindsN fun _ _ _ _ _ _ us hl => match us, hl with | [_, _], _ => rfl
  have a1 : cC12.lam = true → LamOk g base mg fd.code ("_law_are_edits" ++ ".<locals>.") (0) := (fun z => absurd z (by decide))
  have a2 : ∀ f x mm, cC12.fns.lookup f = some (x, mm) → FnD P w K mg base (0) g x mm (tT12 f) := (fun f x n z => nomatch (show (none : Option (Str × Nat)) = some (x, n) from z))
  have a3 : ∀ x, cC12.free.contains x = true → mg x = none := (fun x hx => F.fr x (frB (l := cC12.free) (by decide +kernel) x hx))
  have a4 : cC12.N = nN12 := rfl
  have a5 : cC12.sc = defScope (pTop 14) := rfl
  have a6 : mg "_law_are_edits" = some (.ref (He.ga K "_law_are_edits")) := F.glo _ (by decide +kernel)
  have a7 := fnScB_ok s12
  have a8 := fnD_run (P := P) (w := w) (base := base) (k := 0) (C := tT12) (body := bB12) Fu a6 bd a7 F.hK a4 a5 m12 a3 a1 a2
  exact a8
theorem fk9 (F : HFacts hDefs hNames hFrees hTf K mg base g) : FnD P w K mg base 8 g "_law_contents" 3 fF9 := by
  obtain ⟨fd, Fu⟩ := F.defs 9 _ rfl
  have Fu : FunD K "_law_contents" "_law_contents" (defArgs (pTop 11)) (defBody (pTop 11)) (defScope (pTop 11)) [] [] (He.ga K "_law_contents") fd := Fu
  have bd : Binds K fd pP9 [] := Fu.bindsN fun _ _ _ _ _ _ us hl => match us, hl with | [_, _, _], _ => rfl
  have a1 : cC9.lam = true → LamOk g base mg fd.code ("_law_contents" ++ ".<locals>.") (4) := (fun z => absurd z (by decide))
  have a2 : ∀ f x mm, cC9.fns.lookup f = some (x, mm) → FnD P w K mg base (4) g x mm (tT9 f) := (fun f x mm z => fnsC9 (Fx := FnD P w K mg base 4 g) (T := tT9) z ((fk4 F).mono (by omega)))
  have a3 : ∀ x, cC9.free.contains x = true → mg x = none := (fun x hx => F.fr x (frB (l := cC9.free) (by decide +kernel) x hx))
  have a4 : cC9.N = nN9 := rfl
  have a5 : cC9.sc = defScope (pTop 11) := rfl
  have a6 : mg "_law_contents" = some (.ref (He.ga K "_law_contents")) := F.glo _ (by decide +kernel)
  have a7 := fnScB_ok s9
  have a8 := fnD_run (P := P) (w := w) (base := base) (k := 4) (C := tT9) (body := bB9) Fu a6 bd a7 F.hK a4 a5 m9 a3 a1 a2
  exact a8
theorem fk6 (F : HFacts hDefs hNames hFrees hTf K mg base g) : FnD P w K mg base 8 g "_law_scalar" 1 fF6 := by
  obtain ⟨fd, Fu⟩ := F.defs 10 _ rfl
  have Fu : FunD K "_law_scalar" "_law_scalar" (defArgs (pTop 8)) (defBody (pTop 8)) (defScope (pTop 8)) [] [] (He.ga K "_law_scalar") fd := Fu
  have bd : Binds K fd pP6 [] := Fu.bindsN fun _ _ _ _ _ _ us hl => match us, hl with | [_], _ => rfl
  have a1 : cC6.lam = true → LamOk g base mg fd.code ("_law_scalar" ++ ".<locals>.") (4) := (fun z => absurd z (by decide))
  have a2 : ∀ f x mm, cC6.fns.lookup f = some (x, mm) → FnD P w K mg base (4) g x mm (tT6 f) := (fun f x mm z => fnsC6 (Fx := FnD P w K mg base 4 g) (T := tT6) z ((fk4 F).mono (by omega)))
  have a3 : ∀ x, cC6.free.contains x = true → mg x = none := (fun x hx => F.fr x (frB (l := cC6.free) (by decide +kernel) x hx))
  have a4 : cC6.N = nN6 := rfl
  have a5 : cC6.sc = defScope (pTop 8) := rfl
  have a6 : mg "_law_scalar" = some (.ref (He.ga K "_law_scalar")) := F.glo _ (by decide +kernel)
  have a7 := fnScB_ok s6
  have a8 := fnD_run (P := P) (w := w) (base := base) (k := 4) (C := tT6) (body := bB6) Fu a6 bd a7 F.hK a4 a5 m6 a3 a1 a2
  exact a8
theorem fk7 (F : HFacts hDefs hNames hFrees hTf K mg base g) : FnD P w K mg base 12 g "_law_element" 1 fF7 := by
  obtain ⟨fd, Fu⟩ := F.defs 11 _ rfl
  have Fu : FunD K "_law_element" "_law_element" (defArgs (pTop 9)) (defBody (pTop 9)) (defScope (pTop 9)) [] [] (He.ga K "_law_element") fd := Fu
  have bd : Binds K fd pP7 [] := Fu.bindsN fun _ _ _ _ _ _ us hl => match us, hl with | [_], _ => rfl
  have a1 : cC7.lam = true → LamOk g base mg fd.code ("_law_element" ++ ".<locals>.") (8) := (fun z => absurd z (by decide))
  have a2 : ∀ f x mm, cC7.fns.lookup f = some (x, mm) → FnD P w K mg base (8) g x mm (tT7 f) := (fun f x mm z => fnsC7 (Fx := FnD P w K mg base 8 g) (T := tT7) z ((fk6 F).mono (by omega)) ((fk4 F).mono (by omega)))
  have a3 : ∀ x, cC7.free.contains x = true → mg x = none := (fun x hx => F.fr x (frB (l := cC7.free) (by decide +kernel) x hx))
  have a4 : cC7.N = nN7 := rfl
  have a5 : cC7.sc = defScope (pTop 9) := rfl
  have a6 : mg "_law_element" = some (.ref (He.ga K "_law_element")) := F.glo _ (by decide +kernel)
  have a7 := fnScB_ok s7
  have a8 := fnD_run (P := P) (w := w) (base := base) (k := 8) (C := tT7) (body := bB7) Fu a6 bd a7 F.hK a4 a5 m7 a3 a1 a2
  exact a8
theorem fk8 (F : HFacts hDefs hNames hFrees hTf K mg base g) : FnD P w K mg base 16 g "_law_pool" 1 fF8 := by
  obtain ⟨fd, Fu⟩ := F.defs 12 _ rfl
  have Fu : FunD K "_law_pool" "_law_pool" (defArgs (pTop 10)) (defBody (pTop 10)) (defScope (pTop 10)) [] [] (He.ga K "_law_pool") fd := Fu
  have bd : Binds K fd pP8 [] := Fu.bindsN fun _ _ _ _ _ _ us hl => match us, hl with | [_], _ => rfl
  have a1 : cC8.lam = true → LamOk g base mg fd.code ("_law_pool" ++ ".<locals>.") (12) := (fun z => absurd z (by decide))
  have a2 : ∀ f x mm, cC8.fns.lookup f = some (x, mm) → FnD P w K mg base (12) g x mm (tT8 f) := (fun f x mm z => fnsC8 (Fx := FnD P w K mg base 12 g) (T := tT8) z ((fk4 F).mono (by omega)) ((fk7 F).mono (by omega)))
  have a3 : ∀ x, cC8.free.contains x = true → mg x = none := (fun x hx => F.fr x (frB (l := cC8.free) (by decide +kernel) x hx))
  have a4 : cC8.N = nN8 := rfl
  have a5 : cC8.sc = defScope (pTop 10) := rfl
  have a6 : mg "_law_pool" = some (.ref (He.ga K "_law_pool")) := F.glo _ (by decide +kernel)
  have a7 := fnScB_ok s8
  have a8 := fnD_run (P := P) (w := w) (base := base) (k := 12) (C := tT8) (body := bB8) Fu a6 bd a7 F.hK a4 a5 m8 a3 a1 a2
  exact a8
theorem fk3 (F : HFacts hDefs hNames hFrees hTf K mg base g) : FnD P w K mg base 4 g "_law_tape" 1 fF3 := by
  obtain ⟨fd, Fu⟩ := F.defs 13 _ rfl
  have Fu : FunD K "_law_tape" "_law_tape" (defArgs (pTop 5)) (defBody (pTop 5)) (defScope (pTop 5)) [] [] (He.ga K "_law_tape") fd := Fu
  have bd : Binds K fd pP3 [] := Fu.bindsN fun _ _ _ _ _ _ us hl => match us, hl with | [_], _ => rfl
  have a1 : cC3.lam = true → LamOk g base mg fd.code ("_law_tape" ++ ".<locals>.") (0) := (fun z => absurd z (by decide))
  have a2 : ∀ f x mm, cC3.fns.lookup f = some (x, mm) → FnD P w K mg base (0) g x mm (tT3 f) := (fun f x n z => nomatch (show (none : Option (Str × Nat)) = some (x, n) from z))
  have a3 : ∀ x, cC3.free.contains x = true → mg x = none := (fun x hx => F.fr x (frB (l := cC3.free) (by decide +kernel) x hx))
  have a4 : cC3.N = nN3 := rfl
  have a5 : cC3.sc = defScope (pTop 5) := rfl
  have a6 : mg "_law_tape" = some (.ref (He.ga K "_law_tape")) := F.glo _ (by decide +kernel)
  have a7 := fnScB_ok s3
  have a8 := fnD_run (P := P) (w := w) (base := base) (k := 0) (C := tT3) (body := bB3) Fu a6 bd a7 F.hK a4 a5 m3 a3 a1 a2
  exact a8
theorem okLaw (F : HFacts hDefs hNames hFrees hTf K mg base g) {fd : FuncData} (Fu : FunD K "law" "law" (defArgs (pTop 16)) (defBody (pTop 16)) (defScope (pTop 16)) [] [] (He.ga K "law") fd) : FnOk P w K mg base (L2.CX P w) 37 (He.ga K "law") fd pP14 (spF g 1 fF14) := by
  have a1 : cC14.lam = true → LamOk g base mg fd.code ("law" ++ ".<locals>.") (33) := (fun z => absurd z (by decide))
  have a2 : ∀ f x mm, cC14.fns.lookup f = some (x, mm) → FnD P w K mg base (33) g x mm (tT14 f) := (fun f x mm z => fnsC14 (Fx := FnD P w K mg base 33 g) (T := tT14) z ((fk5 F).mono (by omega)) ((fk13 F).mono (by omega)) ((fk2 F).mono (by omega)) ((fk1 F).mono (by omega)) ((fk11 F).mono (by omega)) ((fk12 F).mono (by omega)) ((fk4 F).mono (by omega)) ((fk9 F).mono (by omega)) ((fk8 F).mono (by omega)) ((fk3 F).mono (by omega)))
  have a3 : ∀ x, cC14.free.contains x = true → mg x = none := (fun x hx => F.fr x (frB (l := cC14.free) (by decide +kernel) x hx))
  have a4 : cC14.N = nN14 := rfl
  have a5 : cC14.sc = defScope (pTop 16) := rfl
  have a7 := fnScB_ok s14
  have a8 := fnOk_run (P := P) (w := w) (base := base) (mg := mg) (k := 33) (C := tT14) (body := bB14) Fu a7 F.hK a4 a5 m14 a3 a1 a2
  exact a8
end
end DL

set_option Elab.async false
set_option linter.all false
set_option maxRecDepth 100000
set_option maxHeartbeats 0
namespace DL
open PySem PySem.Spec PyProof.Rows L2
abbrev hFaL : List He.Fa := hNames.map He.Fa.glo ++ hFrees.map He.Fa.free
abbrev hHook : PySem.W.Hook := He.hookX 4 hFaL hDefs [] hTf (fun _ => true)
def hOb (s : PySem.W.SharedT) : He.AlX := He.obsX 4 hFaL hDefs [] hTf (fun _ => true) (HandSHeadRun.getT s)
theorem hOb_eq (s : PySem.W.SharedT) : hOb s = hHook.obs s.abs := He.obsX_eq (HandSHeadRun.getT_eq s)
theorem hRun (w : World) : HandSHeadRun.RunEq (PySem.W.OpenLaw.row PySem.Challenge.rw_sameshape_k74_clashes_and_merged_edits) (PySem.W.view (PySem.W.OpenLaw.row PySem.Challenge.rw_sameshape_k74_clashes_and_merged_edits).prog [16]) hHook hOb 4000 ["clash", "clashes", "merged_edits", "_law_tape", "_law_draw", "_law_alike", "_law_scalar", "_law_element", "_law_pool", "_law_contents", "_law_priority", "_law_drawn_edits", "_law_are_edits", "_law_due"] w := by
  intro os
  kernel_rfl
theorem hEnd (law : ∀ (ns : List Int) (d : D) (h : Hd), ns.length ≤ 63 → ScriptD (ns.map D.int) d h → ∃ h', fF14 [d] h = .ok (.bl true) h') : PySem.Challenge.rw_sameshape_k74_clashes_and_merged_edits.Holds := by
  w_on; o_law
  refine HandSHeadRun.head_any (r := (PySem.W.OpenLaw.row PySem.Challenge.rw_sameshape_k74_clashes_and_merged_edits)) (q := PySem.W.view (PySem.W.OpenLaw.row PySem.Challenge.rw_sameshape_k74_clashes_and_merged_edits).prog [16]) (H := hHook) (ob := hOb) (M := 4000) (loose := ["clash", "clashes", "merged_edits", "_law_tape", "_law_draw", "_law_alike", "_law_scalar", "_law_element", "_law_pool", "_law_contents", "_law_priority", "_law_drawn_edits", "_law_are_edits", "_law_due"]) (d := HandSHeadRun.topDef (PySem.W.OpenLaw.row PySem.Challenge.rw_sameshape_k74_clashes_and_merged_edits).prog 16) (kwd := []) hOb_eq
    (by kernel_rfl) (fun s => by kernel_rfl) hRun (by kernel_rfl) (by kernel_rfl) (by kernel_rfl) (by rfl) (by first | assumption | decide +kernel) (by decide +kernel) ⟨rfl, rfl, rfl, rfl, rfl, by decide +kernel⟩ ?hw ?hc
  case hw => w_witness2
  case hc =>
    refine LamX.walk_ofTsE (l := PySem.Challenge.rw_sameshape_k74_clashes_and_merged_edits) (n := 63) (k := 37) (x := "_law_script") (CX := fun w => L2.CX (PySem.Challenge.rw_sameshape_k74_clashes_and_merged_edits).prog w) rfl (by decide) (by kernel_rfl) ⟨rfl, by decide, by decide⟩ ?F (fun _ _ _ _ _ z => cx_never z)
    intro w mg fa h Y G hmg0
    obtain ⟨K, KX, c⟩ := Y
    have hmg : mg ("law" : PySem.Str) = some (.ref fa) := by
      have e : (HandSHeadRun.topDef (PySem.W.OpenLaw.row PySem.Challenge.rw_sameshape_k74_clashes_and_merged_edits).prog 16).name = ("law" : PySem.Str) := by kernel_rfl
      rw [← e]
      exact hmg0
    obtain ⟨fd, Fu⟩ := c.t.d.def_ 14 rfl
    have Fu : FunD K "law" "law" (defArgs (pTop 16)) (defBody (pTop 16)) (defScope (pTop 16)) [] [] (He.ga K "law") fd := Fu
    have efa := hmg.symm.trans (He.glo_ok KX G (c.t.d.facts (f := .glo "law") (List.mem_append_left _ (List.mem_map.mpr ⟨_, by decide +kernel, rfl⟩))))
    cases efa
    have b := FunD.bindsA (ps := pP14) Fu fun _ _ _ _ _ _ us hl => match us, hl with | [_], _ => rfl
    have tbs : ∀ (base : Heap), (∀ p ∈ hTf.map (He.cT K), LamX.TabB base mg p.1 p.2) → ∀ p ∈ hTf, LamX.TabB base mg (He.cT K p).1 (He.cT K p).2 := fun base z p hp => z _ (List.mem_map.mpr ⟨p, hp, rfl⟩)
    have un : ∀ {Z : Addr × Addr → Prop}, (∀ p ∈ hTf, Z (He.cT K p)) → ∀ p ∈ hTf.map (He.cT K), Z p := fun z p hp => by
      obtain ⟨q, hq, rfl⟩ := List.mem_map.mp hp
      exact z q hq
    refine ⟨K, KX, fd, hTf.map (He.cT K), spF ⟨K, fun _ => none, gdT hTf K⟩ 1 fF14, un c.empty, un c.out, un fun p hp => PySem.W.codeHd_of_K KX (c.hd p hp), fun s v => b s [v] rfl, fun H a ns hl _ hH hS => ?_, fun base hKb hG htb => ?_⟩
    · exact law_sp (g := ⟨K, fun _ => none, gdT hTf K⟩) (tb := gdT hTf K) rfl law H a ns hl (fun p hp => by
        obtain ⟨q, hq, rfl⟩ := List.mem_map.mp hp
        exact hH _ (List.mem_map.mpr ⟨q, hq, rfl⟩)) hS
    · exact okLaw (g := ⟨K, fun _ => none, gdT hTf K⟩) (hfacts_of KX G c (tbs base htb) (by decide) rfl rfl) Fu
end DL

set_option Elab.async false
set_option linter.all false
set_option maxRecDepth 100000
set_option maxHeartbeats 1000000
namespace DL
open PySem PySem.Spec PyProof.Rows L2
/-- the tape at t -/
structure Tape (t : Nat) (h : Hd) : Prop where
  ex : ∃ (s : Nat) (a b c : Int) (ns : List Int), h[t]? = some (.lst [.ref s, .int a, .int b, .int c]) ∧ h[s]? = some (.lst (ns.map D.int)) ∧ s < t ∧ 0 ≤ a ∧ ns.length ≤ 63
/-- all but t stays -/
structure Fr (t : Nat) (h h' : Hd) : Prop where
  len : h.length ≤ h'.length
  keep : ∀ (i : Nat) o, i ≠ t → h[i]? = some o → h'[i]? = some o
theorem Fr.refl {t : Nat} {h : Hd} : Fr t h h := ⟨Nat.le_refl _, fun _ _ _ e => e⟩
theorem Fr.trans {t : Nat} {h h1 h2 : Hd} (a : Fr t h h1) (b : Fr t h1 h2) : Fr t h h2 := ⟨Nat.le_trans a.len b.len, fun i o n e => b.keep i o n (a.keep i o n e)⟩
theorem Fr.set {t : Nat} {h : Hd} {o : OD} : Fr t h (h.set t o) := ⟨by simp, fun i u n e => by rw [List.getElem?_set_ne (Ne.symm n)]; exact e⟩
theorem Fr.app {t : Nat} {h k : Hd} : Fr t h (h ++ k) := ⟨by simp, fun i u n e => by rw [List.getElem?_append_left (List.getElem?_eq_some_iff.mp e).1]; exact e⟩
theorem log_small {j : Int} (h0 : 0 < j) (h : j ≤ 4294967296) : j.natAbs.log2 < 9000 := by
  have h1 : j.natAbs < 2 ^ 33 := by omega
  have h2 : j.natAbs ≠ 0 := by omega
  have := (Nat.log2_lt h2).mpr h1
  omega
theorem Tape.put {t s : Nat} {h : Hd} {a b c : Int} {ns : List Int} {o : OD} (e0 : h[t]? = some o) (e2 : h[s]? = some (.lst (ns.map D.int))) (e3 : s < t) (e4 : 0 ≤ a) (e5 : ns.length ≤ 63) : Tape t (h.set t (.lst [.ref s, .int a, .int b, .int c])) :=
  ⟨s, a, b, c, ns, set_at e0, by rw [List.getElem?_set_ne (Nat.ne_of_gt e3)]; exact e2, e3, e4, e5⟩
theorem draw_end {t s : Nat} {n k : Int} {h : Hd} {a b c : Int} {ns : List Int} {o : OD} {x : Hd} (n1 : 1 ≤ n) (e0 : h[t]? = some o) (e2 : h[s]? = some (.lst (ns.map D.int))) (e3 : s < t) (e4 : 0 ≤ a) (e5 : ns.length ≤ 63) (f : Fr t x h) :
    ∃ v, D.int (k % n) = .int v ∧ 0 ≤ v ∧ v < n ∧ Tape t (h.set t (.lst [.ref s, .int a, .int b, .int c])) ∧ Fr t x (h.set t (.lst [.ref s, .int a, .int b, .int c])) :=
  ⟨_, rfl, Int.emod_nonneg _ (by omega), Int.emod_lt_of_pos _ (by omega), .put e0 e2 e3 e4 e5, f.trans .set⟩
theorem draw_sat {t : Nat} {n : Int} {h : Hd} (T : Tape t h) (n1 : 1 ≤ n) (n2 : n ≤ 4294967296) : (fF4 [.ref t, .int n] h).sat fun d h' => ∃ v, d = .int v ∧ 0 ≤ v ∧ v < n ∧ Tape t h' ∧ Fr t h h' := by
  obtain ⟨s, a, b, c, ns, e1, e2, e3, e4, e5⟩ := T.ex
  refine runP_v (σ := [some (.ref t), some (.int n), none, none]) (by rfl) (by rfl) ?_
  have m1 : (if 1 > n then 1 else n) = n := if_neg (by omega)
  have m2 : 0 < (if 2 > n then 2 else n) := by split <;> omega
  have m3 : (if 2 > n then 2 else n).natAbs.log2 < 9000 := log_small m2 (by split <;> omega)
  have n0 : 0 < n := by omega
  have e2s : ∀ {k : Hd} (o : OD), k[s]? = some (.lst (ns.map D.int)) → (k.set t o)[s]? = some (.lst (ns.map D.int)) := fun o z => by rw [List.getElem?_set_ne (Nat.ne_of_gt e3)]; exact z
  unfold bB4
  simp (maxSteps := 2000000) (disch := decide) only [↓ss_nil, ↓ss_cons, ↓FL.then_nx, ↓FL.then_rt, ↓FL.then_bk, ↓FL.then_ct, ↓retW_nx, ↓retW_rt, ↓s_expr, ↓s_ret, ↓s_retN, ↓s_set, ↓s_setc, ↓s_setix, ↓s_iff, ↓s_for, ↓s_brk, ↓s_cont, ↓s_pass, ↓v_var, ↓varD_some, ↓v_int, ↓v_str, ↓v_bl, ↓v_non, ↓v_op2, ↓v_cmp, ↓v_neg, ↓v_nt, ↓v_and, ↓v_or, ↓and1, ↓or1, ↓and2, ↓or2, ↓andT1, ↓orT1, ↓andT2, ↓orT2, ↓v_ife, ↓l_nil, ↓l_cons, ↓v_tup, ↓v_lst, ↓v_ix, ↓o_no, ↓o_yes, ↓inD1_int, ↓v_sl, ↓v_bc, ↓v_isi, ↓v_call, ↓v_app, ↓v_comp, ↓v_sortk, ↓v_sortl, ↓t_cmp, ↓t_nt, ↓t_and, ↓t_or, ↓t_var, ↓t_bl, ↓t_isi, ↓t_call, ↓blD_bl, ↓trD_bl, ↓itD_some, ↓i_seq, ↓i_enum, ↓i_rng1, ↓vO_some, ↓add_ii, ↓sub_ii, ↓lt_ii, ↓le_ii, ↓gt_ii, ↓ge_ii, ↓eq_ii, ↓abs_i, ↓int_i, ↓max_ii, ↓min_ii, ↓neg_i, ↓setW_some, ↓mul_ii, ↓mod_ii, ↓pow_ii, ↓div_ii, ↓reduceIte, and_self, ↓len_tup, List.getElem?_cons_zero, List.getElem?_cons_succ, List.set_cons_zero, List.set_cons_succ, ↓ix_ref e1 atI_2, ↓ix_ref e1 atI_1, ↓ix_ref e1 atI_0, ↓ix_ref e1 atI_3, ↓len_ref e2, m1, ↓div_ii m2 m3, ↓mod_ii n0, setD4_2 e1]
  generalize (if 2 > n then 2 else n) = k2 at m2 m3
  by_cases hb : b = 0
  · rw [if_pos (decide_eq_true hb)]
    by_cases ha : a < ((ns.map D.int).length : Int)
    · rw [if_pos (decide_eq_true ha)]
      have hx : ∃ z, atI (ns.map D.int) a = some (.int z) := by
        obtain ⟨j, rfl⟩ := Int.eq_ofNat_of_zero_le e4
        have hj : j < ns.length := by simpa using ha
        exact ⟨ns[j], atI_nat (by rw [List.getElem?_map, List.getElem?_eq_getElem hj]; rfl)⟩
      obtain ⟨z, hz⟩ := hx
      simp (maxSteps := 2000000) (disch := decide) only [↓ss_nil, ↓ss_cons, ↓FL.then_nx, ↓FL.then_rt, ↓FL.then_bk, ↓FL.then_ct, ↓retW_nx, ↓retW_rt, ↓s_expr, ↓s_ret, ↓s_retN, ↓s_set, ↓s_setc, ↓s_setix, ↓s_iff, ↓s_for, ↓s_brk, ↓s_cont, ↓s_pass, ↓v_var, ↓varD_some, ↓v_int, ↓v_str, ↓v_bl, ↓v_non, ↓v_op2, ↓v_cmp, ↓v_neg, ↓v_nt, ↓v_and, ↓v_or, ↓and1, ↓or1, ↓and2, ↓or2, ↓andT1, ↓orT1, ↓andT2, ↓orT2, ↓v_ife, ↓l_nil, ↓l_cons, ↓v_tup, ↓v_lst, ↓v_ix, ↓o_no, ↓o_yes, ↓inD1_int, ↓v_sl, ↓v_bc, ↓v_isi, ↓v_call, ↓v_app, ↓v_comp, ↓v_sortk, ↓v_sortl, ↓t_cmp, ↓t_nt, ↓t_and, ↓t_or, ↓t_var, ↓t_bl, ↓t_isi, ↓t_call, ↓blD_bl, ↓trD_bl, ↓itD_some, ↓i_seq, ↓i_enum, ↓i_rng1, ↓vO_some, ↓add_ii, ↓sub_ii, ↓lt_ii, ↓le_ii, ↓gt_ii, ↓ge_ii, ↓eq_ii, ↓abs_i, ↓int_i, ↓max_ii, ↓min_ii, ↓neg_i, ↓setW_some, ↓mul_ii, ↓mod_ii, ↓pow_ii, ↓div_ii, ↓reduceIte, and_self, ↓len_tup, List.getElem?_cons_zero, List.getElem?_cons_succ, List.set_cons_zero, List.set_cons_succ, ↓ix_ref e2 hz, setD4_1 e1]
      generalize (if z < 0 then -z else z) = y
      have e6 := set_at (o := .lst [.ref s, .int (a + 1), .int b, .int c]) e1
      split
      · exact (mod_ii n0).mpr (draw_end n1 e1 e2 e3 (by omega) e5 .refl)
      · have e7 := set_at (o := .lst [.ref s, .int (a + 1), .int y, .int c]) e6
        simp (maxSteps := 2000000) (disch := decide) only [↓ss_nil, ↓ss_cons, ↓FL.then_nx, ↓FL.then_rt, ↓FL.then_bk, ↓FL.then_ct, ↓retW_nx, ↓retW_rt, ↓s_expr, ↓s_ret, ↓s_retN, ↓s_set, ↓s_setc, ↓s_setix, ↓s_iff, ↓s_for, ↓s_brk, ↓s_cont, ↓s_pass, ↓v_var, ↓varD_some, ↓v_int, ↓v_str, ↓v_bl, ↓v_non, ↓v_op2, ↓v_cmp, ↓v_neg, ↓v_nt, ↓v_and, ↓v_or, ↓and1, ↓or1, ↓and2, ↓or2, ↓andT1, ↓orT1, ↓andT2, ↓orT2, ↓v_ife, ↓l_nil, ↓l_cons, ↓v_tup, ↓v_lst, ↓v_ix, ↓o_no, ↓o_yes, ↓inD1_int, ↓v_sl, ↓v_bc, ↓v_isi, ↓v_call, ↓v_app, ↓v_comp, ↓v_sortk, ↓v_sortl, ↓t_cmp, ↓t_nt, ↓t_and, ↓t_or, ↓t_var, ↓t_bl, ↓t_isi, ↓t_call, ↓blD_bl, ↓trD_bl, ↓itD_some, ↓i_seq, ↓i_enum, ↓i_rng1, ↓vO_some, ↓add_ii, ↓sub_ii, ↓lt_ii, ↓le_ii, ↓gt_ii, ↓ge_ii, ↓eq_ii, ↓abs_i, ↓int_i, ↓max_ii, ↓min_ii, ↓neg_i, ↓setW_some, ↓mul_ii, ↓mod_ii, ↓pow_ii, ↓div_ii, ↓reduceIte, and_self, ↓len_tup, List.getElem?_cons_zero, List.getElem?_cons_succ, List.set_cons_zero, List.set_cons_succ, setD4_2 e6, ↓ix_ref e7 atI_2, ↓div_ii m2 m3, ↓mod_ii n0, setD4_2 e7]
        exact draw_end n1 e7 (e2s _ (e2s _ e2)) e3 (by omega) e5 (Fr.set.trans .set)
    · rw [if_neg (by simpa using ha)]
      have e6 : ∀ q, (h.set t (.lst [.ref s, .int a, .int b, .int q]))[t]? = some (.lst [.ref s, .int a, .int b, .int q]) := fun q => set_at e1
      have e7 : ∀ q, ((h.set t (.lst [.ref s, .int a, .int b, .int q])).set t (.lst [.ref s, .int (a + 1), .int b, .int q]))[t]? = some (.lst [.ref s, .int (a + 1), .int b, .int q]) := fun q => set_at (e6 q)
      have e8 : ∀ q y, (((h.set t (.lst [.ref s, .int a, .int b, .int q])).set t (.lst [.ref s, .int (a + 1), .int b, .int q])).set t (.lst [.ref s, .int (a + 1), .int y, .int q]))[t]? = some (.lst [.ref s, .int (a + 1), .int y, .int q]) := fun q y => set_at (e7 q)
      simp (maxSteps := 2000000) (disch := decide) only [↓ss_nil, ↓ss_cons, ↓FL.then_nx, ↓FL.then_rt, ↓FL.then_bk, ↓FL.then_ct, ↓retW_nx, ↓retW_rt, ↓s_expr, ↓s_ret, ↓s_retN, ↓s_set, ↓s_setc, ↓s_setix, ↓s_iff, ↓s_for, ↓s_brk, ↓s_cont, ↓s_pass, ↓v_var, ↓varD_some, ↓v_int, ↓v_str, ↓v_bl, ↓v_non, ↓v_op2, ↓v_cmp, ↓v_neg, ↓v_nt, ↓v_and, ↓v_or, ↓and1, ↓or1, ↓and2, ↓or2, ↓andT1, ↓orT1, ↓andT2, ↓orT2, ↓v_ife, ↓l_nil, ↓l_cons, ↓v_tup, ↓v_lst, ↓v_ix, ↓o_no, ↓o_yes, ↓inD1_int, ↓v_sl, ↓v_bc, ↓v_isi, ↓v_call, ↓v_app, ↓v_comp, ↓v_sortk, ↓v_sortl, ↓t_cmp, ↓t_nt, ↓t_and, ↓t_or, ↓t_var, ↓t_bl, ↓t_isi, ↓t_call, ↓blD_bl, ↓trD_bl, ↓itD_some, ↓i_seq, ↓i_enum, ↓i_rng1, ↓vO_some, ↓add_ii, ↓sub_ii, ↓lt_ii, ↓le_ii, ↓gt_ii, ↓ge_ii, ↓eq_ii, ↓abs_i, ↓int_i, ↓max_ii, ↓min_ii, ↓neg_i, ↓setW_some, ↓mul_ii, ↓mod_ii, ↓pow_ii, ↓div_ii, ↓reduceIte, and_self, ↓len_tup, List.getElem?_cons_zero, List.getElem?_cons_succ, List.set_cons_zero, List.set_cons_succ, setD4_3 e1, ↓ix_ref (e6 _) atI_3, setD4_1 (e6 _)]
      split
      · exact (mod_ii n0).mpr (draw_end n1 (e6 _) (e2s _ e2) e3 (by omega) e5 .set)
      · simp (maxSteps := 2000000) (disch := decide) only [↓ss_nil, ↓ss_cons, ↓FL.then_nx, ↓FL.then_rt, ↓FL.then_bk, ↓FL.then_ct, ↓retW_nx, ↓retW_rt, ↓s_expr, ↓s_ret, ↓s_retN, ↓s_set, ↓s_setc, ↓s_setix, ↓s_iff, ↓s_for, ↓s_brk, ↓s_cont, ↓s_pass, ↓v_var, ↓varD_some, ↓v_int, ↓v_str, ↓v_bl, ↓v_non, ↓v_op2, ↓v_cmp, ↓v_neg, ↓v_nt, ↓v_and, ↓v_or, ↓and1, ↓or1, ↓and2, ↓or2, ↓andT1, ↓orT1, ↓andT2, ↓orT2, ↓v_ife, ↓l_nil, ↓l_cons, ↓v_tup, ↓v_lst, ↓v_ix, ↓o_no, ↓o_yes, ↓inD1_int, ↓v_sl, ↓v_bc, ↓v_isi, ↓v_call, ↓v_app, ↓v_comp, ↓v_sortk, ↓v_sortl, ↓t_cmp, ↓t_nt, ↓t_and, ↓t_or, ↓t_var, ↓t_bl, ↓t_isi, ↓t_call, ↓blD_bl, ↓trD_bl, ↓itD_some, ↓i_seq, ↓i_enum, ↓i_rng1, ↓vO_some, ↓add_ii, ↓sub_ii, ↓lt_ii, ↓le_ii, ↓gt_ii, ↓ge_ii, ↓eq_ii, ↓abs_i, ↓int_i, ↓max_ii, ↓min_ii, ↓neg_i, ↓setW_some, ↓mul_ii, ↓mod_ii, ↓pow_ii, ↓div_ii, ↓reduceIte, and_self, ↓len_tup, List.getElem?_cons_zero, List.getElem?_cons_succ, List.set_cons_zero, List.set_cons_succ, setD4_2 (e7 _), ↓ix_ref (e8 _ _) atI_2, ↓div_ii m2 m3, ↓mod_ii n0, setD4_2 (e8 _ _)]
        exact draw_end n1 (e8 _ _) (e2s _ (e2s _ (e2s _ e2))) e3 (by omega) e5 ((Fr.set.trans .set).trans .set)
  · rw [if_neg (by simp [hb])]
    first
      | exact draw_end n1 e1 e2 e3 e4 e5 .refl
      | (simp (maxSteps := 2000000) (disch := decide) only [↓ss_nil, ↓ss_cons, ↓FL.then_nx, ↓FL.then_rt, ↓FL.then_bk, ↓FL.then_ct, ↓retW_nx, ↓retW_rt, ↓s_expr, ↓s_ret, ↓s_retN, ↓s_set, ↓s_setc, ↓s_setix, ↓s_iff, ↓s_for, ↓s_brk, ↓s_cont, ↓s_pass, ↓v_var, ↓varD_some, ↓v_int, ↓v_str, ↓v_bl, ↓v_non, ↓v_op2, ↓v_cmp, ↓v_neg, ↓v_nt, ↓v_and, ↓v_or, ↓and1, ↓or1, ↓and2, ↓or2, ↓andT1, ↓orT1, ↓andT2, ↓orT2, ↓v_ife, ↓l_nil, ↓l_cons, ↓v_tup, ↓v_lst, ↓v_ix, ↓o_no, ↓o_yes, ↓inD1_int, ↓v_sl, ↓v_bc, ↓v_isi, ↓v_call, ↓v_app, ↓v_comp, ↓v_sortk, ↓v_sortl, ↓t_cmp, ↓t_nt, ↓t_and, ↓t_or, ↓t_var, ↓t_bl, ↓t_isi, ↓t_call, ↓blD_bl, ↓trD_bl, ↓itD_some, ↓i_seq, ↓i_enum, ↓i_rng1, ↓vO_some, ↓add_ii, ↓sub_ii, ↓lt_ii, ↓le_ii, ↓gt_ii, ↓ge_ii, ↓eq_ii, ↓abs_i, ↓int_i, ↓max_ii, ↓min_ii, ↓neg_i, ↓setW_some, ↓mul_ii, ↓mod_ii, ↓pow_ii, ↓div_ii, ↓reduceIte, and_self, ↓len_tup, List.getElem?_cons_zero, List.getElem?_cons_succ, List.set_cons_zero, List.set_cons_succ, ↓div_ii m2 m3, setD4_2 e1, ↓mod_ii n0]; exact draw_end n1 e1 e2 e3 e4 e5 .refl)
end DL

set_option Elab.async false
set_option linter.all false
set_option maxRecDepth 100000
set_option maxHeartbeats 1000000
namespace DL
open PySem PySem.Spec PyProof.Rows L2
section
variable {t n : Nat} {h : Hd} {P : D → Hd → Prop}
theorem draw_v {k : Int} (T : Tape t h) (n1 : 1 ≤ k) (n2 : k ≤ 4294967296) (q : ∀ v h1, 0 ≤ v → v < k → Tape t h1 → Fr t h h1 → P (.int v) h1) : vC fF4 [.ref t, .int k] h P :=
  vC.mono (draw_sat T n1 n2) fun d h1 ⟨v, e, v0, v1, T1, f1⟩ => e ▸ q v h1 v0 v1 T1 f1
theorem ix_lit {ds : List D} {v : Int} (e : h[n]? = some (.lst ds)) (v0 : 0 ≤ v) (v1 : v < ds.length) (q : ∀ d ∈ ds, P d h) : vO (semIx (.ref n) (.int v) h) P := by
  obtain ⟨j, rfl⟩ := Int.eq_ofNat_of_zero_le v0
  have hj : j < ds.length := by omega
  exact (ix_ref e (atI_nat (List.getElem?_eq_getElem hj))).mpr (q _ (List.getElem_mem hj))
theorem list_v {d : D} {ds : List D} (e : seqOf h d = some ds) : vO (semB .list [d] h) P ↔ P (.ref h.length) (h ++ [.lst ds]) := by
  have : semB .list [d] h = some (.ref h.length, h ++ [.lst ds]) := by simp only [semB, on1, listD, e, Option.map_some]
  rw [this]; exact Iff.rfl
theorem tuple_v {d : D} {ds : List D} (e : seqOf h d = some ds) : vO (semB .tuple [d] h) P ↔ P (.tup ds) h := by
  have : semB .tuple [d] h = some (.tup ds, h) := by simp only [semB, on1, tupleD, e, Option.map_some]
  rw [this]; exact Iff.rfl
theorem ix_str {z : Str} {i : Int} {c : Nat} (e : z.length ≤ sizeLine) (e2 : atI z.cps.toList i = some c) : vO (semIx (.str z) (.int i) h) P ↔ P (.str ⟨#[c]⟩) h := by
  have : semIx (.str z) (.int i) h = some (.str ⟨#[c]⟩, h) := by simp only [semIx]; rw [if_pos e, e2]; rfl
  rw [this]; exact Iff.rfl
theorem add_ss {a b : Str} (e : a.length + b.length ≤ sizeLine) : vO (semO .add (.str a) (.str b) h) P ↔ P (.str (a ++ b)) h := by
  have : semO .add (.str a) (.str b) h = some (.str (a ++ b), h) := by simp only [semO, semAdd]; rw [if_pos e]
  rw [this]; exact Iff.rfl
theorem seqOf_ref {ds : List D} (e : h[n]? = some (.lst ds)) : seqOf h (.ref n) = some ds := by simp only [seqOf, e]
theorem Tape.lt (T : Tape t h) : t < h.length := by
  obtain ⟨_, _, _, _, _, e, _⟩ := T.ex
  exact (List.getElem?_eq_some_iff.mp e).1
theorem Tape.app {k : Hd} (T : Tape t h) : Tape t (h ++ k) := by
  obtain ⟨s, a, b, c, ns, e1, e2, e3⟩ := T.ex
  exact ⟨s, a, b, c, ns, app_at e1, app_at e2, e3⟩
theorem Fr.new {h1 : Hd} {o : OD} (T : Tape t h) (f : Fr t (h ++ [o]) h1) : h1[h.length]? = some o := f.keep _ _ (Nat.ne_of_gt T.lt) app_new
theorem len_le {a b : Nat} (h : a ≤ 1000000) (e : b = a) : b ≤ sizeLine := by rw [sizeLine_eq]; omega
end
theorem tape_sat {ns : List Int} {d : D} {h : Hd} (hn : ns.length ≤ 63) (S : ScriptD (ns.map D.int) d h) : (fF3 [d] h).sat fun r h' => ∃ t, r = .ref t ∧ Tape t h' := by
  have es : seqOf h d = some (ns.map D.int) := by cases S <;> rfl
  obtain ⟨I, eI, ei, hg⟩ : ∃ I, itSeq d h = some I ∧ I.items = ns.map D.int ∧ I.guard h := by
    cases S with
    | rol => exact ⟨_, rfl, rfl, fun _ z => nomatch z⟩
    | lst => exact ⟨_, rfl, rfl, fun p z => by rw [List.mem_singleton.mp z]; rfl⟩
  refine runP_v (σ := [some d, none, none]) (by rfl) (by rfl) ?_
  unfold bB3
  simp (maxSteps := 2000000) (disch := decide) only [↓ss_nil, ↓ss_cons, ↓FL.then_nx, ↓FL.then_rt, ↓FL.then_bk, ↓FL.then_ct, ↓retW_nx, ↓retW_rt, ↓s_expr, ↓s_ret, ↓s_retN, ↓s_set, ↓s_setc, ↓s_setix, ↓s_iff, ↓s_for, ↓s_brk, ↓s_cont, ↓s_pass, ↓v_var, ↓varD_some, ↓v_int, ↓v_str, ↓v_bl, ↓v_non, ↓v_op2, ↓v_cmp, ↓v_neg, ↓v_nt, ↓v_and, ↓v_or, ↓and1, ↓or1, ↓and2, ↓or2, ↓andT1, ↓orT1, ↓andT2, ↓orT2, ↓v_ife, ↓l_nil, ↓l_cons, ↓v_tup, ↓v_lst, ↓v_ix, ↓o_no, ↓o_yes, ↓inD1_int, ↓v_sl, ↓v_bc, ↓v_isi, ↓v_call, ↓v_app, ↓v_comp, ↓v_sortk, ↓v_sortl, ↓t_cmp, ↓t_nt, ↓t_and, ↓t_or, ↓t_var, ↓t_bl, ↓t_isi, ↓t_call, ↓blD_bl, ↓trD_bl, ↓itD_some, ↓i_seq, ↓i_enum, ↓i_rng1, ↓vO_some, ↓add_ii, ↓sub_ii, ↓lt_ii, ↓le_ii, ↓gt_ii, ↓ge_ii, ↓eq_ii, ↓abs_i, ↓int_i, ↓max_ii, ↓min_ii, ↓neg_i, ↓setW_some, ↓mul_ii, ↓mod_ii, ↓pow_ii, ↓div_ii, ↓reduceIte, and_self, ↓len_tup, List.getElem?_cons_zero, List.getElem?_cons_succ, List.set_cons_zero, List.set_cons_succ, itD_of eI]
  refine for_sat (fun _ τ h' => h' = h ∧ ∃ i z, τ = [some d, some (.int i), z]) ⟨rfl, _, _, rfl⟩ (fun i τ h' _ ⟨e, _⟩ => e ▸ hg) (fun i τ h' x hx ⟨e, j, z, eτ⟩ => ?_) (fun τ h' ⟨e, j, z, eτ⟩ => ?_)
  · subst e eτ
    rw [ei, List.getElem?_map] at hx
    obtain ⟨y, rfl⟩ : ∃ y, x = D.int y := by
      cases q : ns[i]? with
      | none => rw [q] at hx; cases hx
      | some y => rw [q] at hx; cases hx; exact ⟨y, rfl⟩
    refine ⟨_, rfl, ?_⟩
    simp (maxSteps := 2000000) (disch := decide) only [↓ss_nil, ↓ss_cons, ↓FL.then_nx, ↓FL.then_rt, ↓FL.then_bk, ↓FL.then_ct, ↓retW_nx, ↓retW_rt, ↓s_expr, ↓s_ret, ↓s_retN, ↓s_set, ↓s_setc, ↓s_setix, ↓s_iff, ↓s_for, ↓s_brk, ↓s_cont, ↓s_pass, ↓v_var, ↓varD_some, ↓v_int, ↓v_str, ↓v_bl, ↓v_non, ↓v_op2, ↓v_cmp, ↓v_neg, ↓v_nt, ↓v_and, ↓v_or, ↓and1, ↓or1, ↓and2, ↓or2, ↓andT1, ↓orT1, ↓andT2, ↓orT2, ↓v_ife, ↓l_nil, ↓l_cons, ↓v_tup, ↓v_lst, ↓v_ix, ↓o_no, ↓o_yes, ↓inD1_int, ↓v_sl, ↓v_bc, ↓v_isi, ↓v_call, ↓v_app, ↓v_comp, ↓v_sortk, ↓v_sortl, ↓t_cmp, ↓t_nt, ↓t_and, ↓t_or, ↓t_var, ↓t_bl, ↓t_isi, ↓t_call, ↓blD_bl, ↓trD_bl, ↓itD_some, ↓i_seq, ↓i_enum, ↓i_rng1, ↓vO_some, ↓add_ii, ↓sub_ii, ↓lt_ii, ↓le_ii, ↓gt_ii, ↓ge_ii, ↓eq_ii, ↓abs_i, ↓int_i, ↓max_ii, ↓min_ii, ↓neg_i, ↓setW_some, ↓mul_ii, ↓mod_ii, ↓pow_ii, ↓div_ii, ↓reduceIte, and_self, ↓len_tup, List.getElem?_cons_zero, List.getElem?_cons_succ, List.set_cons_zero, List.set_cons_succ]
    exact ⟨trivial, _, _, rfl⟩
  · subst e eτ
    simp (maxSteps := 2000000) (disch := decide) only [↓ss_nil, ↓ss_cons, ↓FL.then_nx, ↓FL.then_rt, ↓FL.then_bk, ↓FL.then_ct, ↓retW_nx, ↓retW_rt, ↓s_expr, ↓s_ret, ↓s_retN, ↓s_set, ↓s_setc, ↓s_setix, ↓s_iff, ↓s_for, ↓s_brk, ↓s_cont, ↓s_pass, ↓v_var, ↓varD_some, ↓v_int, ↓v_str, ↓v_bl, ↓v_non, ↓v_op2, ↓v_cmp, ↓v_neg, ↓v_nt, ↓v_and, ↓v_or, ↓and1, ↓or1, ↓and2, ↓or2, ↓andT1, ↓orT1, ↓andT2, ↓orT2, ↓v_ife, ↓l_nil, ↓l_cons, ↓v_tup, ↓v_lst, ↓v_ix, ↓o_no, ↓o_yes, ↓inD1_int, ↓v_sl, ↓v_bc, ↓v_isi, ↓v_call, ↓v_app, ↓v_comp, ↓v_sortk, ↓v_sortl, ↓t_cmp, ↓t_nt, ↓t_and, ↓t_or, ↓t_var, ↓t_bl, ↓t_isi, ↓t_call, ↓blD_bl, ↓trD_bl, ↓itD_some, ↓i_seq, ↓i_enum, ↓i_rng1, ↓vO_some, ↓add_ii, ↓sub_ii, ↓lt_ii, ↓le_ii, ↓gt_ii, ↓ge_ii, ↓eq_ii, ↓abs_i, ↓int_i, ↓max_ii, ↓min_ii, ↓neg_i, ↓setW_some, ↓mul_ii, ↓mod_ii, ↓pow_ii, ↓div_ii, ↓reduceIte, and_self, ↓len_tup, List.getElem?_cons_zero, List.getElem?_cons_succ, List.set_cons_zero, List.set_cons_succ, ↓list_v es]
    refine ⟨len_le (a := 4) (by decide) rfl, _, rfl, ?_⟩
    refine ⟨h'.length, 0, 0, j, ns, app_new, ?_, ?_, by decide, hn⟩
    · rw [List.append_assoc]; simp
    · simp
/-- a scalar, an element -/
inductive Sc : D → Prop
  | int (i : Int) : Sc (.int i)
  | str (x : Str) (h : x.length ≤ 40) : Sc (.str x)
inductive El : D → Prop
  | sc {d : D} (h : Sc d) : El d
  | pair {a b : D} (h1 : Sc a) (h2 : Sc b) : El (.tup [a, b])
theorem signs_len : ("abcdefghijklmnopqrstuvwxyzABCDEFGHIJKLMNOPQRSTUVWXYZ0123456789 !\"#$&'()*+,-./:;<=>?\x40[\\]^_`{|}~" : Str).cps.toList.length = 94 := by decide +kernel
theorem tT6_4 : tT6 4 = fF4 := rfl
theorem scalar_sat {t : Nat} {h : Hd} (T : Tape t h) : (fF6 [.ref t] h).sat fun d h' => Sc d ∧ Tape t h' ∧ Fr t h h' := by
  refine runP_v (σ := [some (.ref t), none, none, none, none, none]) (by rfl) (by rfl) ?_
  unfold bB6
  try simp (maxSteps := 2000000) (disch := decide) only [↓ss_nil, ↓ss_cons, ↓FL.then_nx, ↓FL.then_rt, ↓FL.then_bk, ↓FL.then_ct, ↓retW_nx, ↓retW_rt, ↓s_expr, ↓s_ret, ↓s_retN, ↓s_set, ↓s_setc, ↓s_setix, ↓s_iff, ↓s_for, ↓s_brk, ↓s_cont, ↓s_pass, ↓v_var, ↓varD_some, ↓v_int, ↓v_str, ↓v_bl, ↓v_non, ↓v_op2, ↓v_cmp, ↓v_neg, ↓v_nt, ↓v_and, ↓v_or, ↓and1, ↓or1, ↓and2, ↓or2, ↓andT1, ↓orT1, ↓andT2, ↓orT2, ↓v_ife, ↓l_nil, ↓l_cons, ↓v_tup, ↓v_lst, ↓v_ix, ↓o_no, ↓o_yes, ↓inD1_int, ↓v_sl, ↓v_bc, ↓v_isi, ↓v_call, ↓v_app, ↓v_comp, ↓v_sortk, ↓v_sortl, ↓t_cmp, ↓t_nt, ↓t_and, ↓t_or, ↓t_var, ↓t_bl, ↓t_isi, ↓t_call, ↓blD_bl, ↓trD_bl, ↓itD_some, ↓i_seq, ↓i_enum, ↓i_rng1, ↓vO_some, ↓add_ii, ↓sub_ii, ↓lt_ii, ↓le_ii, ↓gt_ii, ↓ge_ii, ↓eq_ii, ↓abs_i, ↓int_i, ↓max_ii, ↓min_ii, ↓neg_i, ↓setW_some, ↓mul_ii, ↓mod_ii, ↓pow_ii, ↓div_ii, ↓reduceIte, and_self, ↓len_tup, List.getElem?_cons_zero, List.getElem?_cons_succ, List.set_cons_zero, List.set_cons_succ, tT6_4]
  refine draw_v T (by decide) (by decide) fun v h1 v0 v1 T1 f1 => ?_
  try simp (maxSteps := 2000000) (disch := decide) only [↓ss_nil, ↓ss_cons, ↓FL.then_nx, ↓FL.then_rt, ↓FL.then_bk, ↓FL.then_ct, ↓retW_nx, ↓retW_rt, ↓s_expr, ↓s_ret, ↓s_retN, ↓s_set, ↓s_setc, ↓s_setix, ↓s_iff, ↓s_for, ↓s_brk, ↓s_cont, ↓s_pass, ↓v_var, ↓varD_some, ↓v_int, ↓v_str, ↓v_bl, ↓v_non, ↓v_op2, ↓v_cmp, ↓v_neg, ↓v_nt, ↓v_and, ↓v_or, ↓and1, ↓or1, ↓and2, ↓or2, ↓andT1, ↓orT1, ↓andT2, ↓orT2, ↓v_ife, ↓l_nil, ↓l_cons, ↓v_tup, ↓v_lst, ↓v_ix, ↓o_no, ↓o_yes, ↓inD1_int, ↓v_sl, ↓v_bc, ↓v_isi, ↓v_call, ↓v_app, ↓v_comp, ↓v_sortk, ↓v_sortl, ↓t_cmp, ↓t_nt, ↓t_and, ↓t_or, ↓t_var, ↓t_bl, ↓t_isi, ↓t_call, ↓blD_bl, ↓trD_bl, ↓itD_some, ↓i_seq, ↓i_enum, ↓i_rng1, ↓vO_some, ↓add_ii, ↓sub_ii, ↓lt_ii, ↓le_ii, ↓gt_ii, ↓ge_ii, ↓eq_ii, ↓abs_i, ↓int_i, ↓max_ii, ↓min_ii, ↓neg_i, ↓setW_some, ↓mul_ii, ↓mod_ii, ↓pow_ii, ↓div_ii, ↓reduceIte, and_self, ↓len_tup, List.getElem?_cons_zero, List.getElem?_cons_succ, List.set_cons_zero, List.set_cons_succ, tT6_4]
  split
  · refine draw_v T1 (by decide) (by decide) fun v2 h2 _ _ T2 f2 => ?_
    try simp (maxSteps := 2000000) (disch := decide) only [↓ss_nil, ↓ss_cons, ↓FL.then_nx, ↓FL.then_rt, ↓FL.then_bk, ↓FL.then_ct, ↓retW_nx, ↓retW_rt, ↓s_expr, ↓s_ret, ↓s_retN, ↓s_set, ↓s_setc, ↓s_setix, ↓s_iff, ↓s_for, ↓s_brk, ↓s_cont, ↓s_pass, ↓v_var, ↓varD_some, ↓v_int, ↓v_str, ↓v_bl, ↓v_non, ↓v_op2, ↓v_cmp, ↓v_neg, ↓v_nt, ↓v_and, ↓v_or, ↓and1, ↓or1, ↓and2, ↓or2, ↓andT1, ↓orT1, ↓andT2, ↓orT2, ↓v_ife, ↓l_nil, ↓l_cons, ↓v_tup, ↓v_lst, ↓v_ix, ↓o_no, ↓o_yes, ↓inD1_int, ↓v_sl, ↓v_bc, ↓v_isi, ↓v_call, ↓v_app, ↓v_comp, ↓v_sortk, ↓v_sortl, ↓t_cmp, ↓t_nt, ↓t_and, ↓t_or, ↓t_var, ↓t_bl, ↓t_isi, ↓t_call, ↓blD_bl, ↓trD_bl, ↓itD_some, ↓i_seq, ↓i_enum, ↓i_rng1, ↓vO_some, ↓add_ii, ↓sub_ii, ↓lt_ii, ↓le_ii, ↓gt_ii, ↓ge_ii, ↓eq_ii, ↓abs_i, ↓int_i, ↓max_ii, ↓min_ii, ↓neg_i, ↓setW_some, ↓mul_ii, ↓mod_ii, ↓pow_ii, ↓div_ii, ↓reduceIte, and_self, ↓len_tup, List.getElem?_cons_zero, List.getElem?_cons_succ, List.set_cons_zero, List.set_cons_succ, tT6_4]
    exact ⟨.int _, T2, f1.trans f2⟩
  · split
    · refine draw_v T1 (by decide) (by decide) fun v2 h2 _ _ T2 f2 => ?_
      try simp (maxSteps := 2000000) (disch := decide) only [↓ss_nil, ↓ss_cons, ↓FL.then_nx, ↓FL.then_rt, ↓FL.then_bk, ↓FL.then_ct, ↓retW_nx, ↓retW_rt, ↓s_expr, ↓s_ret, ↓s_retN, ↓s_set, ↓s_setc, ↓s_setix, ↓s_iff, ↓s_for, ↓s_brk, ↓s_cont, ↓s_pass, ↓v_var, ↓varD_some, ↓v_int, ↓v_str, ↓v_bl, ↓v_non, ↓v_op2, ↓v_cmp, ↓v_neg, ↓v_nt, ↓v_and, ↓v_or, ↓and1, ↓or1, ↓and2, ↓or2, ↓andT1, ↓orT1, ↓andT2, ↓orT2, ↓v_ife, ↓l_nil, ↓l_cons, ↓v_tup, ↓v_lst, ↓v_ix, ↓o_no, ↓o_yes, ↓inD1_int, ↓v_sl, ↓v_bc, ↓v_isi, ↓v_call, ↓v_app, ↓v_comp, ↓v_sortk, ↓v_sortl, ↓t_cmp, ↓t_nt, ↓t_and, ↓t_or, ↓t_var, ↓t_bl, ↓t_isi, ↓t_call, ↓blD_bl, ↓trD_bl, ↓itD_some, ↓i_seq, ↓i_enum, ↓i_rng1, ↓vO_some, ↓add_ii, ↓sub_ii, ↓lt_ii, ↓le_ii, ↓gt_ii, ↓ge_ii, ↓eq_ii, ↓abs_i, ↓int_i, ↓max_ii, ↓min_ii, ↓neg_i, ↓setW_some, ↓mul_ii, ↓mod_ii, ↓pow_ii, ↓div_ii, ↓reduceIte, and_self, ↓len_tup, List.getElem?_cons_zero, List.getElem?_cons_succ, List.set_cons_zero, List.set_cons_succ, tT6_4]
      refine ⟨len_le (a := 5) (by decide) rfl, ?_⟩
      refine draw_v T2.app (by decide) (by decide) fun v3 h3 a3 b3 T3 f3 => ?_
      refine ix_lit (Fr.new T2 f3) a3 b3 fun d hd => ?_
      refine ⟨?_, T3, (f1.trans f2).trans (Fr.app.trans f3)⟩
      simp only [List.mem_cons, List.not_mem_nil, or_false] at hd
      rcases hd with rfl | rfl | rfl | rfl | rfl <;> exact .int _
    · refine ⟨len_le (a := 4) (by decide) rfl, ?_⟩
      refine draw_v T1.app (by decide) (by decide) fun v3 h3 a3 b3 T3 f3 => ?_
      refine ix_lit (Fr.new T1 f3) a3 b3 fun d hd => ?_
      have hx : ∃ x : Str, d = .str x ∧ x.length ≤ 20 := by
        simp only [List.mem_cons, List.not_mem_nil, or_false] at hd
        rcases hd with rfl | rfl | rfl | rfl <;> exact ⟨_, rfl, by decide +kernel⟩
      obtain ⟨x, rfl, hl⟩ := hx
      try simp (maxSteps := 2000000) (disch := decide) only [↓ss_nil, ↓ss_cons, ↓FL.then_nx, ↓FL.then_rt, ↓FL.then_bk, ↓FL.then_ct, ↓retW_nx, ↓retW_rt, ↓s_expr, ↓s_ret, ↓s_retN, ↓s_set, ↓s_setc, ↓s_setix, ↓s_iff, ↓s_for, ↓s_brk, ↓s_cont, ↓s_pass, ↓v_var, ↓varD_some, ↓v_int, ↓v_str, ↓v_bl, ↓v_non, ↓v_op2, ↓v_cmp, ↓v_neg, ↓v_nt, ↓v_and, ↓v_or, ↓and1, ↓or1, ↓and2, ↓or2, ↓andT1, ↓orT1, ↓andT2, ↓orT2, ↓v_ife, ↓l_nil, ↓l_cons, ↓v_tup, ↓v_lst, ↓v_ix, ↓o_no, ↓o_yes, ↓inD1_int, ↓v_sl, ↓v_bc, ↓v_isi, ↓v_call, ↓v_app, ↓v_comp, ↓v_sortk, ↓v_sortl, ↓t_cmp, ↓t_nt, ↓t_and, ↓t_or, ↓t_var, ↓t_bl, ↓t_isi, ↓t_call, ↓blD_bl, ↓trD_bl, ↓itD_some, ↓i_seq, ↓i_enum, ↓i_rng1, ↓vO_some, ↓add_ii, ↓sub_ii, ↓lt_ii, ↓le_ii, ↓gt_ii, ↓ge_ii, ↓eq_ii, ↓abs_i, ↓int_i, ↓max_ii, ↓min_ii, ↓neg_i, ↓setW_some, ↓mul_ii, ↓mod_ii, ↓pow_ii, ↓div_ii, ↓reduceIte, and_self, ↓len_tup, List.getElem?_cons_zero, List.getElem?_cons_succ, List.set_cons_zero, List.set_cons_succ, tT6_4]
      refine ⟨len_le (a := 6) (by decide) rfl, ?_⟩
      refine draw_v T3.app (by decide) (by decide) fun v4 h4 a4 b4 T4 f4 => ?_
      refine ix_lit (Fr.new T3 f4) a4 b4 fun k hk => ?_
      have hk : ∃ n : Nat, k = .int n ∧ n ≤ 6 := by
        simp only [List.mem_cons, List.not_mem_nil, or_false] at hk
        rcases hk with rfl | rfl | rfl | rfl | rfl | rfl
        · exact ⟨0, rfl, by decide⟩
        · exact ⟨1, rfl, by decide⟩
        · exact ⟨1, rfl, by decide⟩
        · exact ⟨2, rfl, by decide⟩
        · exact ⟨3, rfl, by decide⟩
        · exact ⟨6, rfl, by decide⟩
      obtain ⟨n, rfl, hn⟩ := hk
      refine rngD_nat (by omega) ?_
      have fb : Fr t h h4 := ((f1.trans (Fr.app.trans f3)).trans Fr.app).trans f4
      refine for_sat (fun i τ h' => Tape t h' ∧ Fr t h h' ∧ ∃ (y : Str) (z : Option D), τ = [some (.ref t), some (.str _), some (.int v), none, some (.str y), z] ∧ y.length ≤ 20 + i) ⟨T4, fb, x, _, rfl, hl⟩ (fun _ _ _ _ _ _ z => nomatch z) (fun i τ h' d hd ⟨T', f', y, z, eτ, hy⟩ => ?_) fun τ h' ⟨T', f', y, z, eτ, hy⟩ => ?_
      · subst eτ
        refine ⟨_, rfl, ?_⟩
        have hi : i < 6 := by
          have := (List.getElem?_eq_some_iff.mp hd).1
          simp at this; omega
        try simp (maxSteps := 2000000) (disch := decide) only [↓ss_nil, ↓ss_cons, ↓FL.then_nx, ↓FL.then_rt, ↓FL.then_bk, ↓FL.then_ct, ↓retW_nx, ↓retW_rt, ↓s_expr, ↓s_ret, ↓s_retN, ↓s_set, ↓s_setc, ↓s_setix, ↓s_iff, ↓s_for, ↓s_brk, ↓s_cont, ↓s_pass, ↓v_var, ↓varD_some, ↓v_int, ↓v_str, ↓v_bl, ↓v_non, ↓v_op2, ↓v_cmp, ↓v_neg, ↓v_nt, ↓v_and, ↓v_or, ↓and1, ↓or1, ↓and2, ↓or2, ↓andT1, ↓orT1, ↓andT2, ↓orT2, ↓v_ife, ↓l_nil, ↓l_cons, ↓v_tup, ↓v_lst, ↓v_ix, ↓o_no, ↓o_yes, ↓inD1_int, ↓v_sl, ↓v_bc, ↓v_isi, ↓v_call, ↓v_app, ↓v_comp, ↓v_sortk, ↓v_sortl, ↓t_cmp, ↓t_nt, ↓t_and, ↓t_or, ↓t_var, ↓t_bl, ↓t_isi, ↓t_call, ↓blD_bl, ↓trD_bl, ↓itD_some, ↓i_seq, ↓i_enum, ↓i_rng1, ↓vO_some, ↓add_ii, ↓sub_ii, ↓lt_ii, ↓le_ii, ↓gt_ii, ↓ge_ii, ↓eq_ii, ↓abs_i, ↓int_i, ↓max_ii, ↓min_ii, ↓neg_i, ↓setW_some, ↓mul_ii, ↓mod_ii, ↓pow_ii, ↓div_ii, ↓reduceIte, and_self, ↓len_tup, List.getElem?_cons_zero, List.getElem?_cons_succ, List.set_cons_zero, List.set_cons_succ, tT6_4]
        refine draw_v T' (by decide) (by decide) fun v5 h5 a5 b5 T5 f5 => ?_
        obtain ⟨j, rfl⟩ := Int.eq_ofNat_of_zero_le a5
        have hj : j < ("abcdefghijklmnopqrstuvwxyzABCDEFGHIJKLMNOPQRSTUVWXYZ0123456789 !\"#$&'()*+,-./:;<=>?\x40[\\]^_`{|}~" : Str).cps.toList.length := by rw [signs_len]; omega
        refine (ix_str (by decide +kernel) (atI_nat (List.getElem?_eq_getElem hj))).mpr ?_
        refine (add_ss (by rw [sizeLine_eq]; show _ + 1 ≤ _; omega)).mpr ?_
        refine ⟨T5, f'.trans f5, _, _, rfl, ?_⟩
        rw [Str.length_append]
        show y.length + 1 ≤ _
        omega
      · subst eτ
        try simp (maxSteps := 2000000) (disch := decide) only [↓ss_nil, ↓ss_cons, ↓FL.then_nx, ↓FL.then_rt, ↓FL.then_bk, ↓FL.then_ct, ↓retW_nx, ↓retW_rt, ↓s_expr, ↓s_ret, ↓s_retN, ↓s_set, ↓s_setc, ↓s_setix, ↓s_iff, ↓s_for, ↓s_brk, ↓s_cont, ↓s_pass, ↓v_var, ↓varD_some, ↓v_int, ↓v_str, ↓v_bl, ↓v_non, ↓v_op2, ↓v_cmp, ↓v_neg, ↓v_nt, ↓v_and, ↓v_or, ↓and1, ↓or1, ↓and2, ↓or2, ↓andT1, ↓orT1, ↓andT2, ↓orT2, ↓v_ife, ↓l_nil, ↓l_cons, ↓v_tup, ↓v_lst, ↓v_ix, ↓o_no, ↓o_yes, ↓inD1_int, ↓v_sl, ↓v_bc, ↓v_isi, ↓v_call, ↓v_app, ↓v_comp, ↓v_sortk, ↓v_sortl, ↓t_cmp, ↓t_nt, ↓t_and, ↓t_or, ↓t_var, ↓t_bl, ↓t_isi, ↓t_call, ↓blD_bl, ↓trD_bl, ↓itD_some, ↓i_seq, ↓i_enum, ↓i_rng1, ↓vO_some, ↓add_ii, ↓sub_ii, ↓lt_ii, ↓le_ii, ↓gt_ii, ↓ge_ii, ↓eq_ii, ↓abs_i, ↓int_i, ↓max_ii, ↓min_ii, ↓neg_i, ↓setW_some, ↓mul_ii, ↓mod_ii, ↓pow_ii, ↓div_ii, ↓reduceIte, and_self, ↓len_tup, List.getElem?_cons_zero, List.getElem?_cons_succ, List.set_cons_zero, List.set_cons_succ, tT6_4]
        refine ⟨.str y ?_, T', f'⟩
        simp at hy; omega
theorem tT7_4 : tT7 4 = fF4 := rfl
theorem tT7_6 : tT7 6 = fF6 := rfl
theorem scalar_v {t : Nat} {h : Hd} {P : D → Hd → Prop} (T : Tape t h) (q : ∀ d h1, Sc d → Tape t h1 → Fr t h h1 → P d h1) : vC fF6 [.ref t] h P := vC.mono (scalar_sat T) fun d h1 ⟨a, b, c⟩ => q d h1 a b c
theorem element_sat {t : Nat} {h : Hd} (T : Tape t h) : (fF7 [.ref t] h).sat fun d h' => El d ∧ Tape t h' ∧ Fr t h h' := by
  refine runP_v (σ := [some (.ref t), none]) (by rfl) (by rfl) ?_
  unfold bB7
  try simp (maxSteps := 2000000) (disch := decide) only [↓ss_nil, ↓ss_cons, ↓FL.then_nx, ↓FL.then_rt, ↓FL.then_bk, ↓FL.then_ct, ↓retW_nx, ↓retW_rt, ↓s_expr, ↓s_ret, ↓s_retN, ↓s_set, ↓s_setc, ↓s_setix, ↓s_iff, ↓s_for, ↓s_brk, ↓s_cont, ↓s_pass, ↓v_var, ↓varD_some, ↓v_int, ↓v_str, ↓v_bl, ↓v_non, ↓v_op2, ↓v_cmp, ↓v_neg, ↓v_nt, ↓v_and, ↓v_or, ↓and1, ↓or1, ↓and2, ↓or2, ↓andT1, ↓orT1, ↓andT2, ↓orT2, ↓v_ife, ↓l_nil, ↓l_cons, ↓v_tup, ↓v_lst, ↓v_ix, ↓o_no, ↓o_yes, ↓inD1_int, ↓v_sl, ↓v_bc, ↓v_isi, ↓v_call, ↓v_app, ↓v_comp, ↓v_sortk, ↓v_sortl, ↓t_cmp, ↓t_nt, ↓t_and, ↓t_or, ↓t_var, ↓t_bl, ↓t_isi, ↓t_call, ↓blD_bl, ↓trD_bl, ↓itD_some, ↓i_seq, ↓i_enum, ↓i_rng1, ↓vO_some, ↓add_ii, ↓sub_ii, ↓lt_ii, ↓le_ii, ↓gt_ii, ↓ge_ii, ↓eq_ii, ↓abs_i, ↓int_i, ↓max_ii, ↓min_ii, ↓neg_i, ↓setW_some, ↓mul_ii, ↓mod_ii, ↓pow_ii, ↓div_ii, ↓reduceIte, and_self, ↓len_tup, List.getElem?_cons_zero, List.getElem?_cons_succ, List.set_cons_zero, List.set_cons_succ, tT7_4, tT7_6]
  refine draw_v T (by decide) (by decide) fun v h1 v0 v1 T1 f1 => ?_
  try simp (maxSteps := 2000000) (disch := decide) only [↓ss_nil, ↓ss_cons, ↓FL.then_nx, ↓FL.then_rt, ↓FL.then_bk, ↓FL.then_ct, ↓retW_nx, ↓retW_rt, ↓s_expr, ↓s_ret, ↓s_retN, ↓s_set, ↓s_setc, ↓s_setix, ↓s_iff, ↓s_for, ↓s_brk, ↓s_cont, ↓s_pass, ↓v_var, ↓varD_some, ↓v_int, ↓v_str, ↓v_bl, ↓v_non, ↓v_op2, ↓v_cmp, ↓v_neg, ↓v_nt, ↓v_and, ↓v_or, ↓and1, ↓or1, ↓and2, ↓or2, ↓andT1, ↓orT1, ↓andT2, ↓orT2, ↓v_ife, ↓l_nil, ↓l_cons, ↓v_tup, ↓v_lst, ↓v_ix, ↓o_no, ↓o_yes, ↓inD1_int, ↓v_sl, ↓v_bc, ↓v_isi, ↓v_call, ↓v_app, ↓v_comp, ↓v_sortk, ↓v_sortl, ↓t_cmp, ↓t_nt, ↓t_and, ↓t_or, ↓t_var, ↓t_bl, ↓t_isi, ↓t_call, ↓blD_bl, ↓trD_bl, ↓itD_some, ↓i_seq, ↓i_enum, ↓i_rng1, ↓vO_some, ↓add_ii, ↓sub_ii, ↓lt_ii, ↓le_ii, ↓gt_ii, ↓ge_ii, ↓eq_ii, ↓abs_i, ↓int_i, ↓max_ii, ↓min_ii, ↓neg_i, ↓setW_some, ↓mul_ii, ↓mod_ii, ↓pow_ii, ↓div_ii, ↓reduceIte, and_self, ↓len_tup, List.getElem?_cons_zero, List.getElem?_cons_succ, List.set_cons_zero, List.set_cons_succ, tT7_4, tT7_6]
  split
  · refine scalar_v T1 fun a h2 sa T2 f2 => ?_
    try simp (maxSteps := 2000000) (disch := decide) only [↓ss_nil, ↓ss_cons, ↓FL.then_nx, ↓FL.then_rt, ↓FL.then_bk, ↓FL.then_ct, ↓retW_nx, ↓retW_rt, ↓s_expr, ↓s_ret, ↓s_retN, ↓s_set, ↓s_setc, ↓s_setix, ↓s_iff, ↓s_for, ↓s_brk, ↓s_cont, ↓s_pass, ↓v_var, ↓varD_some, ↓v_int, ↓v_str, ↓v_bl, ↓v_non, ↓v_op2, ↓v_cmp, ↓v_neg, ↓v_nt, ↓v_and, ↓v_or, ↓and1, ↓or1, ↓and2, ↓or2, ↓andT1, ↓orT1, ↓andT2, ↓orT2, ↓v_ife, ↓l_nil, ↓l_cons, ↓v_tup, ↓v_lst, ↓v_ix, ↓o_no, ↓o_yes, ↓inD1_int, ↓v_sl, ↓v_bc, ↓v_isi, ↓v_call, ↓v_app, ↓v_comp, ↓v_sortk, ↓v_sortl, ↓t_cmp, ↓t_nt, ↓t_and, ↓t_or, ↓t_var, ↓t_bl, ↓t_isi, ↓t_call, ↓blD_bl, ↓trD_bl, ↓itD_some, ↓i_seq, ↓i_enum, ↓i_rng1, ↓vO_some, ↓add_ii, ↓sub_ii, ↓lt_ii, ↓le_ii, ↓gt_ii, ↓ge_ii, ↓eq_ii, ↓abs_i, ↓int_i, ↓max_ii, ↓min_ii, ↓neg_i, ↓setW_some, ↓mul_ii, ↓mod_ii, ↓pow_ii, ↓div_ii, ↓reduceIte, and_self, ↓len_tup, List.getElem?_cons_zero, List.getElem?_cons_succ, List.set_cons_zero, List.set_cons_succ, tT7_4, tT7_6]
    refine scalar_v T2 fun b h3 sb T3 f3 => ?_
    try simp (maxSteps := 2000000) (disch := decide) only [↓ss_nil, ↓ss_cons, ↓FL.then_nx, ↓FL.then_rt, ↓FL.then_bk, ↓FL.then_ct, ↓retW_nx, ↓retW_rt, ↓s_expr, ↓s_ret, ↓s_retN, ↓s_set, ↓s_setc, ↓s_setix, ↓s_iff, ↓s_for, ↓s_brk, ↓s_cont, ↓s_pass, ↓v_var, ↓varD_some, ↓v_int, ↓v_str, ↓v_bl, ↓v_non, ↓v_op2, ↓v_cmp, ↓v_neg, ↓v_nt, ↓v_and, ↓v_or, ↓and1, ↓or1, ↓and2, ↓or2, ↓andT1, ↓orT1, ↓andT2, ↓orT2, ↓v_ife, ↓l_nil, ↓l_cons, ↓v_tup, ↓v_lst, ↓v_ix, ↓o_no, ↓o_yes, ↓inD1_int, ↓v_sl, ↓v_bc, ↓v_isi, ↓v_call, ↓v_app, ↓v_comp, ↓v_sortk, ↓v_sortl, ↓t_cmp, ↓t_nt, ↓t_and, ↓t_or, ↓t_var, ↓t_bl, ↓t_isi, ↓t_call, ↓blD_bl, ↓trD_bl, ↓itD_some, ↓i_seq, ↓i_enum, ↓i_rng1, ↓vO_some, ↓add_ii, ↓sub_ii, ↓lt_ii, ↓le_ii, ↓gt_ii, ↓ge_ii, ↓eq_ii, ↓abs_i, ↓int_i, ↓max_ii, ↓min_ii, ↓neg_i, ↓setW_some, ↓mul_ii, ↓mod_ii, ↓pow_ii, ↓div_ii, ↓reduceIte, and_self, ↓len_tup, List.getElem?_cons_zero, List.getElem?_cons_succ, List.set_cons_zero, List.set_cons_succ, tT7_4, tT7_6]
    exact ⟨len_le (a := 2) (by decide) rfl, .pair sa sb, T3, (f1.trans f2).trans f3⟩
  · refine scalar_v T1 fun a h2 sa T2 f2 => ?_
    exact ⟨.sc sa, T2, f1.trans f2⟩
theorem element_v {t : Nat} {h : Hd} {P : D → Hd → Prop} (T : Tape t h) (q : ∀ d h1, El d → Tape t h1 → Fr t h h1 → P d h1) : vC fF7 [.ref t] h P := vC.mono (element_sat T) fun d h1 ⟨a, b, c⟩ => q d h1 a b c
end DL

set_option Elab.async false
set_option linter.all false
set_option maxRecDepth 100000
set_option maxHeartbeats 1000000
namespace DL
open PySem PySem.Spec PyProof.Rows L2
theorem mul_rep {n : Nat} {h : Hd} {P : D → Hd → Prop} {xs : List D} {k : Int} (e : h[n]? = some (.lst xs)) (h0 : 0 ≤ k) (h1 : k ≤ 1000) (h2 : xs.length ≤ 1000) : vO (semO .mul (.ref n) (.int k) h) P ↔ P (.ref h.length) (h ++ [.lst (List.replicate k.toNat xs).flatten]) := by
  have z : xs.length * k.toNat ≤ sizeLine := by
    rw [sizeLine_eq]
    exact Nat.le_trans (Nat.mul_le_mul h2 (by omega : k.toNat ≤ 1000)) (by decide)
  have : semO .mul (.ref n) (.int k) h = some (.ref h.length, h ++ [.lst (List.replicate k.toNat xs).flatten]) := by
    simp only [semO, semMul, e]
    rw [if_pos ⟨Int.le_trans (by decide) h0, Int.lt_of_le_of_lt h1 (by decide), z⟩]
  rw [this]; exact Iff.rfl
theorem add_ll {a b : Nat} {h : Hd} {P : D → Hd → Prop} {xs ys : List D} (e : h[a]? = some (.lst xs)) (e2 : h[b]? = some (.lst ys)) (z : xs.length + ys.length ≤ 1000000) : vO (semO .add (.ref a) (.ref b) h) P ↔ P (.ref h.length) (h ++ [.lst (xs ++ ys)]) := by
  have : semO .add (.ref a) (.ref b) h = some (.ref h.length, h ++ [.lst (xs ++ ys)]) := by
    simp only [semO, semAdd, e, e2]
    rw [if_pos (len_le z rfl)]
  rw [this]; exact Iff.rfl
theorem sl_ref {n : Nat} {h : Hd} {P : D → Hd → Prop} {xs : List D} {lo hi : Option Int} (e : h[n]? = some (.lst xs)) : vO (semSl (.ref n) lo hi h) P ↔ P (.ref h.length) (h ++ [.lst (cutD xs lo hi)]) := by
  have : semSl (.ref n) lo hi h = some (.ref h.length, h ++ [.lst (cutD xs lo hi)]) := by simp only [semSl, e]
  rw [this]; exact Iff.rfl
theorem cut_mem {xs : List D} {lo hi : Option Int} {x : D} (h : x ∈ cutD xs lo hi) : x ∈ xs := List.mem_of_mem_drop (List.mem_of_mem_take h)
theorem cut_len {xs : List D} {z : Int} (h : 0 ≤ z) : ((cutD xs none (some z)).length : Int) ≤ z := by
  unfold cutD
  rw [List.length_take]
  have : HT.sIx xs.length xs.length (some z) = min z.toNat xs.length := by
    unfold HT.sIx; dsimp only; rw [if_neg (by omega)]
  rw [this]
  show ((min (min z.toNat xs.length - 0) _ : Nat) : Int) ≤ z
  omega
def Pool (p : Nat) (h : Hd) : Prop := ∃ ds, h[p]? = some (.lst ds) ∧ 0 < ds.length ∧ ds.length ≤ 6 ∧ ∀ d ∈ ds, El d
theorem Pool.fr {t p : Nat} {h h' : Hd} (q : Pool p h) (f : Fr t h h') (n : p ≠ t) : Pool p h' := let ⟨ds, e, r⟩ := q; ⟨ds, f.keep _ _ n e, r⟩
theorem snoc_all {Q : D → Prop} {l : List D} {x : D} (a : ∀ d ∈ l, Q d) (b : Q x) : ∀ d ∈ l ++ [x], Q d := fun d hd => by
  rcases List.mem_append.mp hd with z | z
  · exact a d z
  · rw [List.mem_singleton.mp z]; exact b
theorem rng_len {n : Nat} : ((List.range n).map fun (i : Nat) => D.int (i : Int)).length = n := by simp
theorem tT8_4 : tT8 4 = fF4 := rfl
theorem tT8_7 : tT8 7 = fF7 := rfl
theorem pool_sat {t : Nat} {h : Hd} (T : Tape t h) : (fF8 [.ref t] h).sat fun d h' => ∃ p, d = .ref p ∧ p ≠ t ∧ Pool p h' ∧ Tape t h' ∧ Fr t h h' := by
  refine runP_v (σ := [some (.ref t), none]) (by rfl) (by rfl) ?_
  unfold bB8
  simp (maxSteps := 2000000) (disch := decide) only [↓ss_nil, ↓ss_cons, ↓FL.then_nx, ↓FL.then_rt, ↓FL.then_bk, ↓FL.then_ct, ↓retW_nx, ↓retW_rt, ↓s_expr, ↓s_ret, ↓s_retN, ↓s_set, ↓s_setc, ↓s_setix, ↓s_iff, ↓s_for, ↓s_brk, ↓s_cont, ↓s_pass, ↓v_var, ↓varD_some, ↓v_int, ↓v_str, ↓v_bl, ↓v_non, ↓v_op2, ↓v_cmp, ↓v_neg, ↓v_nt, ↓v_and, ↓v_or, ↓and1, ↓or1, ↓and2, ↓or2, ↓andT1, ↓orT1, ↓andT2, ↓orT2, ↓v_ife, ↓l_nil, ↓l_cons, ↓v_tup, ↓v_lst, ↓v_ix, ↓o_no, ↓o_yes, ↓inD1_int, ↓v_sl, ↓v_bc, ↓v_isi, ↓v_call, ↓v_app, ↓v_comp, ↓v_sortk, ↓v_sortl, ↓t_cmp, ↓t_nt, ↓t_and, ↓t_or, ↓t_var, ↓t_bl, ↓t_isi, ↓t_call, ↓blD_bl, ↓trD_bl, ↓itD_some, ↓i_seq, ↓i_enum, ↓i_rng1, ↓vO_some, ↓add_ii, ↓sub_ii, ↓lt_ii, ↓le_ii, ↓gt_ii, ↓ge_ii, ↓eq_ii, ↓abs_i, ↓int_i, ↓max_ii, ↓min_ii, ↓neg_i, ↓setW_some, ↓mul_ii, ↓mod_ii, ↓pow_ii, ↓div_ii, ↓reduceIte, and_self, ↓len_tup, List.getElem?_cons_zero, List.getElem?_cons_succ, List.set_cons_zero, List.set_cons_succ, tT8_4, tT8_7]
  refine draw_v T (by decide) (by decide) fun v h1 v0 v1 T1 f1 => ?_
  try simp (maxSteps := 2000000) (disch := decide) only [↓ss_nil, ↓ss_cons, ↓FL.then_nx, ↓FL.then_rt, ↓FL.then_bk, ↓FL.then_ct, ↓retW_nx, ↓retW_rt, ↓s_expr, ↓s_ret, ↓s_retN, ↓s_set, ↓s_setc, ↓s_setix, ↓s_iff, ↓s_for, ↓s_brk, ↓s_cont, ↓s_pass, ↓v_var, ↓varD_some, ↓v_int, ↓v_str, ↓v_bl, ↓v_non, ↓v_op2, ↓v_cmp, ↓v_neg, ↓v_nt, ↓v_and, ↓v_or, ↓and1, ↓or1, ↓and2, ↓or2, ↓andT1, ↓orT1, ↓andT2, ↓orT2, ↓v_ife, ↓l_nil, ↓l_cons, ↓v_tup, ↓v_lst, ↓v_ix, ↓o_no, ↓o_yes, ↓inD1_int, ↓v_sl, ↓v_bc, ↓v_isi, ↓v_call, ↓v_app, ↓v_comp, ↓v_sortk, ↓v_sortl, ↓t_cmp, ↓t_nt, ↓t_and, ↓t_or, ↓t_var, ↓t_bl, ↓t_isi, ↓t_call, ↓blD_bl, ↓trD_bl, ↓itD_some, ↓i_seq, ↓i_enum, ↓i_rng1, ↓vO_some, ↓add_ii, ↓sub_ii, ↓lt_ii, ↓le_ii, ↓gt_ii, ↓ge_ii, ↓eq_ii, ↓abs_i, ↓int_i, ↓max_ii, ↓min_ii, ↓neg_i, ↓setW_some, ↓mul_ii, ↓mod_ii, ↓pow_ii, ↓div_ii, ↓reduceIte, and_self, ↓len_tup, List.getElem?_cons_zero, List.getElem?_cons_succ, List.set_cons_zero, List.set_cons_succ, tT8_4, tT8_7]
  refine rngD_i (by omega) (by omega) ?_
  refine vCo_no (fun i acc h' => acc.length = i ∧ (∀ d ∈ acc, El d) ∧ Tape t h' ∧ Fr t h h') ⟨rfl, by simp, T1, f1⟩ (fun _ _ _ _ _ _ z => nomatch z) (fun i acc h' d hd ⟨hl, ha, T', f'⟩ => ?_) fun acc h' ⟨hl, ha, T', f'⟩ => ?_
  · refine ⟨_, rfl, ?_⟩
    try simp (maxSteps := 2000000) (disch := decide) only [↓ss_nil, ↓ss_cons, ↓FL.then_nx, ↓FL.then_rt, ↓FL.then_bk, ↓FL.then_ct, ↓retW_nx, ↓retW_rt, ↓s_expr, ↓s_ret, ↓s_retN, ↓s_set, ↓s_setc, ↓s_setix, ↓s_iff, ↓s_for, ↓s_brk, ↓s_cont, ↓s_pass, ↓v_var, ↓varD_some, ↓v_int, ↓v_str, ↓v_bl, ↓v_non, ↓v_op2, ↓v_cmp, ↓v_neg, ↓v_nt, ↓v_and, ↓v_or, ↓and1, ↓or1, ↓and2, ↓or2, ↓andT1, ↓orT1, ↓andT2, ↓orT2, ↓v_ife, ↓l_nil, ↓l_cons, ↓v_tup, ↓v_lst, ↓v_ix, ↓o_no, ↓o_yes, ↓inD1_int, ↓v_sl, ↓v_bc, ↓v_isi, ↓v_call, ↓v_app, ↓v_comp, ↓v_sortk, ↓v_sortl, ↓t_cmp, ↓t_nt, ↓t_and, ↓t_or, ↓t_var, ↓t_bl, ↓t_isi, ↓t_call, ↓blD_bl, ↓trD_bl, ↓itD_some, ↓i_seq, ↓i_enum, ↓i_rng1, ↓vO_some, ↓add_ii, ↓sub_ii, ↓lt_ii, ↓le_ii, ↓gt_ii, ↓ge_ii, ↓eq_ii, ↓abs_i, ↓int_i, ↓max_ii, ↓min_ii, ↓neg_i, ↓setW_some, ↓mul_ii, ↓mod_ii, ↓pow_ii, ↓div_ii, ↓reduceIte, and_self, ↓len_tup, List.getElem?_cons_zero, List.getElem?_cons_succ, List.set_cons_zero, List.set_cons_succ, wipeD, tT8_4, tT8_7]
    refine element_v T' fun x h2 ex T2 f2 => ?_
    exact ⟨by rw [List.length_append, hl]; rfl, snoc_all ha ex, T2, f'.trans f2⟩
  · rw [rng_len] at hl
    refine ⟨len_le (a := acc.length) (by omega) rfl, h'.length, rfl, Nat.ne_of_gt T'.lt, ⟨acc, app_new, by omega, by omega, ha⟩, T'.app, f'.trans .app⟩
/-- a draw out of the pool -/
theorem pick_v {t p : Nat} {h : Hd} {P : D → Hd → Prop} (T : Tape t h) (n : p ≠ t) (q : Pool p h) (r : ∀ d h1, El d → Tape t h1 → Fr t h h1 → P d h1) : vO (semB .len [.ref p] h) fun y h2 => vC fF4 [.ref t, y] h2 fun z h3 => vO (semIx (.ref p) z h3) P := by
  obtain ⟨ds, e, l1, l2, a⟩ := q
  refine (len_ref e).mpr ?_
  refine draw_v T (by omega) (by omega) fun v h1 v0 v1 T1 f1 => ?_
  exact ix_lit (f1.keep _ _ n e) v0 v1 fun d hd => r d h1 (a d hd) T1 f1
def Cont (m : Int) (d : D) : Prop := ∃ ds, d = .tup ds ∧ (ds.length : Int) ≤ m ∧ ∀ x ∈ ds, El x
theorem tT9_4 : tT9 4 = fF4 := rfl
theorem contents_sat {t p : Nat} {m : Int} {h : Hd} (T : Tape t h) (n : p ≠ t) (q : Pool p h) (hm : 2 ≤ m) (hm2 : m ≤ 1000) : (fF9 [.ref t, .ref p, .int m] h).sat fun d h' => Cont m d ∧ Tape t h' ∧ Fr t h h' := by
  refine runP_v (σ := [some (.ref t), some (.ref p), some (.int m), none, none, none, none, none, none, none, none]) (by rfl) (by rfl) ?_
  unfold bB9
  refine ss_mid (fun τ' h' => ∃ z : Int, (0 ≤ z ∧ z ≤ m) ∧ τ' = [some (.ref t), some (.ref p), some (.int m), some (.int z), none, none, none, none, none, none, none] ∧ Tape t h' ∧ Fr t h h') ?_ ?_
  · simp (maxSteps := 2000000) (disch := decide) only [↓ss_nil, ↓ss_cons, ↓FL.then_nx, ↓FL.then_rt, ↓FL.then_bk, ↓FL.then_ct, ↓retW_nx, ↓retW_rt, ↓s_expr, ↓s_ret, ↓s_retN, ↓s_set, ↓s_setc, ↓s_setix, ↓s_iff, ↓s_for, ↓s_brk, ↓s_cont, ↓s_pass, ↓v_var, ↓varD_some, ↓v_int, ↓v_str, ↓v_bl, ↓v_non, ↓v_op2, ↓v_cmp, ↓v_neg, ↓v_nt, ↓v_and, ↓v_or, ↓and1, ↓or1, ↓and2, ↓or2, ↓andT1, ↓orT1, ↓andT2, ↓orT2, ↓v_ife, ↓l_nil, ↓l_cons, ↓v_tup, ↓v_lst, ↓v_ix, ↓o_no, ↓o_yes, ↓inD1_int, ↓v_sl, ↓v_bc, ↓v_isi, ↓v_call, ↓v_app, ↓v_comp, ↓v_sortk, ↓v_sortl, ↓t_cmp, ↓t_nt, ↓t_and, ↓t_or, ↓t_var, ↓t_bl, ↓t_isi, ↓t_call, ↓blD_bl, ↓trD_bl, ↓itD_some, ↓i_seq, ↓i_enum, ↓i_rng1, ↓vO_some, ↓add_ii, ↓sub_ii, ↓lt_ii, ↓le_ii, ↓gt_ii, ↓ge_ii, ↓eq_ii, ↓abs_i, ↓int_i, ↓max_ii, ↓min_ii, ↓neg_i, ↓setW_some, ↓mul_ii, ↓mod_ii, ↓pow_ii, ↓div_ii, ↓reduceIte, and_self, ↓len_tup, List.getElem?_cons_zero, List.getElem?_cons_succ, List.set_cons_zero, List.set_cons_succ, tT9_4]
    refine draw_v T (by omega) (by omega) fun v h1 v0 v1 T1 f1 => ?_
    exact ⟨v, by omega, rfl, T1, f1⟩
  rintro τ1 h1 ⟨z1, hz1, rfl, T1, f1⟩
  refine ss_mid (fun τ' h' => ∃ z : Int, (0 ≤ z ∧ z ≤ m) ∧ τ' = [some (.ref t), some (.ref p), some (.int m), some (.int z), none, none, none, none, none, none, none] ∧ Tape t h' ∧ Fr t h h') ?_ ?_
  · simp (maxSteps := 2000000) (disch := decide) only [↓ss_nil, ↓ss_cons, ↓FL.then_nx, ↓FL.then_rt, ↓FL.then_bk, ↓FL.then_ct, ↓retW_nx, ↓retW_rt, ↓s_expr, ↓s_ret, ↓s_retN, ↓s_set, ↓s_setc, ↓s_setix, ↓s_iff, ↓s_for, ↓s_brk, ↓s_cont, ↓s_pass, ↓v_var, ↓varD_some, ↓v_int, ↓v_str, ↓v_bl, ↓v_non, ↓v_op2, ↓v_cmp, ↓v_neg, ↓v_nt, ↓v_and, ↓v_or, ↓and1, ↓or1, ↓and2, ↓or2, ↓andT1, ↓orT1, ↓andT2, ↓orT2, ↓v_ife, ↓l_nil, ↓l_cons, ↓v_tup, ↓v_lst, ↓v_ix, ↓o_no, ↓o_yes, ↓inD1_int, ↓v_sl, ↓v_bc, ↓v_isi, ↓v_call, ↓v_app, ↓v_comp, ↓v_sortk, ↓v_sortl, ↓t_cmp, ↓t_nt, ↓t_and, ↓t_or, ↓t_var, ↓t_bl, ↓t_isi, ↓t_call, ↓blD_bl, ↓trD_bl, ↓itD_some, ↓i_seq, ↓i_enum, ↓i_rng1, ↓vO_some, ↓add_ii, ↓sub_ii, ↓lt_ii, ↓le_ii, ↓gt_ii, ↓ge_ii, ↓eq_ii, ↓abs_i, ↓int_i, ↓max_ii, ↓min_ii, ↓neg_i, ↓setW_some, ↓mul_ii, ↓mod_ii, ↓pow_ii, ↓div_ii, ↓reduceIte, and_self, ↓len_tup, List.getElem?_cons_zero, List.getElem?_cons_succ, List.set_cons_zero, List.set_cons_succ, tT9_4]
    refine draw_v T1 (by omega) (by omega) fun v h2 v0 v1 T2 f2 => ?_
    try simp (maxSteps := 2000000) (disch := decide) only [↓ss_nil, ↓ss_cons, ↓FL.then_nx, ↓FL.then_rt, ↓FL.then_bk, ↓FL.then_ct, ↓retW_nx, ↓retW_rt, ↓s_expr, ↓s_ret, ↓s_retN, ↓s_set, ↓s_setc, ↓s_setix, ↓s_iff, ↓s_for, ↓s_brk, ↓s_cont, ↓s_pass, ↓v_var, ↓varD_some, ↓v_int, ↓v_str, ↓v_bl, ↓v_non, ↓v_op2, ↓v_cmp, ↓v_neg, ↓v_nt, ↓v_and, ↓v_or, ↓and1, ↓or1, ↓and2, ↓or2, ↓andT1, ↓orT1, ↓andT2, ↓orT2, ↓v_ife, ↓l_nil, ↓l_cons, ↓v_tup, ↓v_lst, ↓v_ix, ↓o_no, ↓o_yes, ↓inD1_int, ↓v_sl, ↓v_bc, ↓v_isi, ↓v_call, ↓v_app, ↓v_comp, ↓v_sortk, ↓v_sortl, ↓t_cmp, ↓t_nt, ↓t_and, ↓t_or, ↓t_var, ↓t_bl, ↓t_isi, ↓t_call, ↓blD_bl, ↓trD_bl, ↓itD_some, ↓i_seq, ↓i_enum, ↓i_rng1, ↓vO_some, ↓add_ii, ↓sub_ii, ↓lt_ii, ↓le_ii, ↓gt_ii, ↓ge_ii, ↓eq_ii, ↓abs_i, ↓int_i, ↓max_ii, ↓min_ii, ↓neg_i, ↓setW_some, ↓mul_ii, ↓mod_ii, ↓pow_ii, ↓div_ii, ↓reduceIte, and_self, ↓len_tup, List.getElem?_cons_zero, List.getElem?_cons_succ, List.set_cons_zero, List.set_cons_succ, tT9_4]
    split
    · refine ⟨len_le (a := 4) (by decide) rfl, ?_⟩
      refine draw_v T2.app (by decide) (by decide) fun v3 h3 a3 b3 T3 f3 => ?_
      refine ix_lit (Fr.new T2 f3) a3 b3 fun k hk => ?_
      have hk : ∃ n : Int, k = .int n ∧ 0 ≤ n ∧ n ≤ m := by
        simp only [List.mem_cons, List.not_mem_nil, or_false] at hk
        rcases hk with rfl | rfl | rfl | rfl
        · exact ⟨0, rfl, by omega⟩
        · exact ⟨1, rfl, by omega⟩
        · exact ⟨2, rfl, by omega⟩
        · exact ⟨m, rfl, by omega⟩
      obtain ⟨n, rfl, hn⟩ := hk
      exact ⟨n, hn, rfl, T3, ((f1.trans f2).trans .app).trans f3⟩
    · exact ⟨z1, hz1, rfl, T2, f1.trans f2⟩
  rintro τ2 h2 ⟨z, hz, rfl, T2, f2⟩
  clear hz1 T1 f1
  refine ss_mid (fun τ' h' => ∃ c : Int, τ' = [some (.ref t), some (.ref p), some (.int m), some (.int z), some (.int c), none, none, none, none, none, none] ∧ Tape t h' ∧ Fr t h h') ?_ ?_
  · simp (maxSteps := 2000000) (disch := decide) only [↓ss_nil, ↓ss_cons, ↓FL.then_nx, ↓FL.then_rt, ↓FL.then_bk, ↓FL.then_ct, ↓retW_nx, ↓retW_rt, ↓s_expr, ↓s_ret, ↓s_retN, ↓s_set, ↓s_setc, ↓s_setix, ↓s_iff, ↓s_for, ↓s_brk, ↓s_cont, ↓s_pass, ↓v_var, ↓varD_some, ↓v_int, ↓v_str, ↓v_bl, ↓v_non, ↓v_op2, ↓v_cmp, ↓v_neg, ↓v_nt, ↓v_and, ↓v_or, ↓and1, ↓or1, ↓and2, ↓or2, ↓andT1, ↓orT1, ↓andT2, ↓orT2, ↓v_ife, ↓l_nil, ↓l_cons, ↓v_tup, ↓v_lst, ↓v_ix, ↓o_no, ↓o_yes, ↓inD1_int, ↓v_sl, ↓v_bc, ↓v_isi, ↓v_call, ↓v_app, ↓v_comp, ↓v_sortk, ↓v_sortl, ↓t_cmp, ↓t_nt, ↓t_and, ↓t_or, ↓t_var, ↓t_bl, ↓t_isi, ↓t_call, ↓blD_bl, ↓trD_bl, ↓itD_some, ↓i_seq, ↓i_enum, ↓i_rng1, ↓vO_some, ↓add_ii, ↓sub_ii, ↓lt_ii, ↓le_ii, ↓gt_ii, ↓ge_ii, ↓eq_ii, ↓abs_i, ↓int_i, ↓max_ii, ↓min_ii, ↓neg_i, ↓setW_some, ↓mul_ii, ↓mod_ii, ↓pow_ii, ↓div_ii, ↓reduceIte, and_self, ↓len_tup, List.getElem?_cons_zero, List.getElem?_cons_succ, List.set_cons_zero, List.set_cons_succ, tT9_4]
    refine draw_v T2 (by decide) (by decide) fun v h3 v0 v1 T3 f3 => ?_
    exact ⟨v, rfl, T3, f2.trans f3⟩
  rintro τ3 h3 ⟨c, rfl, T3, f3⟩
  refine ss_mid (fun τ' h' => ∃ f : Int, τ' = [some (.ref t), some (.ref p), some (.int m), some (.int z), some (.int c), some (.int f), none, none, none, none, none] ∧ Tape t h' ∧ Fr t h h') ?_ ?_
  · simp (maxSteps := 2000000) (disch := decide) only [↓ss_nil, ↓ss_cons, ↓FL.then_nx, ↓FL.then_rt, ↓FL.then_bk, ↓FL.then_ct, ↓retW_nx, ↓retW_rt, ↓s_expr, ↓s_ret, ↓s_retN, ↓s_set, ↓s_setc, ↓s_setix, ↓s_iff, ↓s_for, ↓s_brk, ↓s_cont, ↓s_pass, ↓v_var, ↓varD_some, ↓v_int, ↓v_str, ↓v_bl, ↓v_non, ↓v_op2, ↓v_cmp, ↓v_neg, ↓v_nt, ↓v_and, ↓v_or, ↓and1, ↓or1, ↓and2, ↓or2, ↓andT1, ↓orT1, ↓andT2, ↓orT2, ↓v_ife, ↓l_nil, ↓l_cons, ↓v_tup, ↓v_lst, ↓v_ix, ↓o_no, ↓o_yes, ↓inD1_int, ↓v_sl, ↓v_bc, ↓v_isi, ↓v_call, ↓v_app, ↓v_comp, ↓v_sortk, ↓v_sortl, ↓t_cmp, ↓t_nt, ↓t_and, ↓t_or, ↓t_var, ↓t_bl, ↓t_isi, ↓t_call, ↓blD_bl, ↓trD_bl, ↓itD_some, ↓i_seq, ↓i_enum, ↓i_rng1, ↓vO_some, ↓add_ii, ↓sub_ii, ↓lt_ii, ↓le_ii, ↓gt_ii, ↓ge_ii, ↓eq_ii, ↓abs_i, ↓int_i, ↓max_ii, ↓min_ii, ↓neg_i, ↓setW_some, ↓mul_ii, ↓mod_ii, ↓pow_ii, ↓div_ii, ↓reduceIte, and_self, ↓len_tup, List.getElem?_cons_zero, List.getElem?_cons_succ, List.set_cons_zero, List.set_cons_succ, tT9_4]
    refine draw_v T3 (by decide) (by decide) fun v h4 v0 v1 T4 f4 => ?_
    exact ⟨v, rfl, T4, f3.trans f4⟩
  rintro τ4 h4 ⟨f, rfl, T4, f4⟩
  have q4 := q.fr f4 n
  refine ss_mid (fun τ' h' => τ' = [some (.ref t), some (.ref p), some (.int m), some (.int z), some (.int c), some (.int f), none, none, none, none, none] ∧ h' = h4) ?_ ?_
  · simp (maxSteps := 2000000) (disch := decide) only [↓ss_nil, ↓ss_cons, ↓FL.then_nx, ↓FL.then_rt, ↓FL.then_bk, ↓FL.then_ct, ↓retW_nx, ↓retW_rt, ↓s_expr, ↓s_ret, ↓s_retN, ↓s_set, ↓s_setc, ↓s_setix, ↓s_iff, ↓s_for, ↓s_brk, ↓s_cont, ↓s_pass, ↓v_var, ↓varD_some, ↓v_int, ↓v_str, ↓v_bl, ↓v_non, ↓v_op2, ↓v_cmp, ↓v_neg, ↓v_nt, ↓v_and, ↓v_or, ↓and1, ↓or1, ↓and2, ↓or2, ↓andT1, ↓orT1, ↓andT2, ↓orT2, ↓v_ife, ↓l_nil, ↓l_cons, ↓v_tup, ↓v_lst, ↓v_ix, ↓o_no, ↓o_yes, ↓inD1_int, ↓v_sl, ↓v_bc, ↓v_isi, ↓v_call, ↓v_app, ↓v_comp, ↓v_sortk, ↓v_sortl, ↓t_cmp, ↓t_nt, ↓t_and, ↓t_or, ↓t_var, ↓t_bl, ↓t_isi, ↓t_call, ↓blD_bl, ↓trD_bl, ↓itD_some, ↓i_seq, ↓i_enum, ↓i_rng1, ↓vO_some, ↓add_ii, ↓sub_ii, ↓lt_ii, ↓le_ii, ↓gt_ii, ↓ge_ii, ↓eq_ii, ↓abs_i, ↓int_i, ↓max_ii, ↓min_ii, ↓neg_i, ↓setW_some, ↓mul_ii, ↓mod_ii, ↓pow_ii, ↓div_ii, ↓reduceIte, and_self, ↓len_tup, List.getElem?_cons_zero, List.getElem?_cons_succ, List.set_cons_zero, List.set_cons_succ, tT9_4]
    split
    · refine rngD_i (by omega) (by omega) ?_
      refine vCo_no (fun i acc h' => acc.length = i ∧ (∀ d ∈ acc, El d) ∧ h' = h4) ⟨rfl, by simp, rfl⟩ (fun _ _ _ _ _ _ z => nomatch z) (fun i acc h' d hd ⟨hl, ha, eh⟩ => ?_) fun acc h' ⟨hl, ha, eh⟩ => ?_
      · refine ⟨_, rfl, ?_⟩
        obtain ⟨y, rfl⟩ : ∃ y, d = D.int y := by
          obtain ⟨j, _, e⟩ := List.mem_map.mp (List.mem_of_getElem? hd)
          exact ⟨_, e.symm⟩
        simp (maxSteps := 2000000) (disch := decide) only [↓ss_nil, ↓ss_cons, ↓FL.then_nx, ↓FL.then_rt, ↓FL.then_bk, ↓FL.then_ct, ↓retW_nx, ↓retW_rt, ↓s_expr, ↓s_ret, ↓s_retN, ↓s_set, ↓s_setc, ↓s_setix, ↓s_iff, ↓s_for, ↓s_brk, ↓s_cont, ↓s_pass, ↓v_var, ↓varD_some, ↓v_int, ↓v_str, ↓v_bl, ↓v_non, ↓v_op2, ↓v_cmp, ↓v_neg, ↓v_nt, ↓v_and, ↓v_or, ↓and1, ↓or1, ↓and2, ↓or2, ↓andT1, ↓orT1, ↓andT2, ↓orT2, ↓v_ife, ↓l_nil, ↓l_cons, ↓v_tup, ↓v_lst, ↓v_ix, ↓o_no, ↓o_yes, ↓inD1_int, ↓v_sl, ↓v_bc, ↓v_isi, ↓v_call, ↓v_app, ↓v_comp, ↓v_sortk, ↓v_sortl, ↓t_cmp, ↓t_nt, ↓t_and, ↓t_or, ↓t_var, ↓t_bl, ↓t_isi, ↓t_call, ↓blD_bl, ↓trD_bl, ↓itD_some, ↓i_seq, ↓i_enum, ↓i_rng1, ↓vO_some, ↓add_ii, ↓sub_ii, ↓lt_ii, ↓le_ii, ↓gt_ii, ↓ge_ii, ↓eq_ii, ↓abs_i, ↓int_i, ↓max_ii, ↓min_ii, ↓neg_i, ↓setW_some, ↓mul_ii, ↓mod_ii, ↓pow_ii, ↓div_ii, ↓reduceIte, and_self, ↓len_tup, List.getElem?_cons_zero, List.getElem?_cons_succ, List.set_cons_zero, List.set_cons_succ, wipeD, tT9_4]
        exact ⟨by rw [List.length_append, hl]; rfl, snoc_all ha (.sc (.int _)), eh⟩
      · subst eh
        rw [rng_len] at hl
        refine ⟨len_le (a := acc.length) (by omega) rfl, (tuple_v (seqOf_ref app_new)).mpr ?_⟩
        exact ⟨⟨acc, rfl, by omega, ha⟩, T4.app, f4.trans .app⟩
    · first | trivial | exact ⟨rfl, rfl⟩
  rintro τ5 h5 ⟨rfl, rfl⟩
  refine ss_mid (fun τ' h' => τ' = [some (.ref t), some (.ref p), some (.int m), some (.int z), some (.int c), some (.int f), none, none, none, none, none] ∧ h' = h5) ?_ ?_
  · simp (maxSteps := 2000000) (disch := decide) only [↓ss_nil, ↓ss_cons, ↓FL.then_nx, ↓FL.then_rt, ↓FL.then_bk, ↓FL.then_ct, ↓retW_nx, ↓retW_rt, ↓s_expr, ↓s_ret, ↓s_retN, ↓s_set, ↓s_setc, ↓s_setix, ↓s_iff, ↓s_for, ↓s_brk, ↓s_cont, ↓s_pass, ↓v_var, ↓varD_some, ↓v_int, ↓v_str, ↓v_bl, ↓v_non, ↓v_op2, ↓v_cmp, ↓v_neg, ↓v_nt, ↓v_and, ↓v_or, ↓and1, ↓or1, ↓and2, ↓or2, ↓andT1, ↓orT1, ↓andT2, ↓orT2, ↓v_ife, ↓l_nil, ↓l_cons, ↓v_tup, ↓v_lst, ↓v_ix, ↓o_no, ↓o_yes, ↓inD1_int, ↓v_sl, ↓v_bc, ↓v_isi, ↓v_call, ↓v_app, ↓v_comp, ↓v_sortk, ↓v_sortl, ↓t_cmp, ↓t_nt, ↓t_and, ↓t_or, ↓t_var, ↓t_bl, ↓t_isi, ↓t_call, ↓blD_bl, ↓trD_bl, ↓itD_some, ↓i_seq, ↓i_enum, ↓i_rng1, ↓vO_some, ↓add_ii, ↓sub_ii, ↓lt_ii, ↓le_ii, ↓gt_ii, ↓ge_ii, ↓eq_ii, ↓abs_i, ↓int_i, ↓max_ii, ↓min_ii, ↓neg_i, ↓setW_some, ↓mul_ii, ↓mod_ii, ↓pow_ii, ↓div_ii, ↓reduceIte, and_self, ↓len_tup, List.getElem?_cons_zero, List.getElem?_cons_succ, List.set_cons_zero, List.set_cons_succ, tT9_4]
    split
    · have fm : 0 ≤ f % 4 ∧ f % 4 < 4 := ⟨Int.emod_nonneg _ (by decide), Int.emod_lt_of_pos _ (by decide)⟩
      refine rngD_i (by omega) (by omega) ?_
      refine vCo_no (fun i acc h' => acc.length = i ∧ (∀ d ∈ acc, El d) ∧ Tape t h' ∧ Fr t h h') ⟨rfl, by simp, T4, f4⟩ (fun _ _ _ _ _ _ z => nomatch z) (fun i acc h' d hd ⟨hl, ha, T', f'⟩ => ?_) fun acc h' ⟨hl, ha, T', f'⟩ => ?_
      · refine ⟨_, rfl, ?_⟩
        simp (maxSteps := 2000000) (disch := decide) only [↓ss_nil, ↓ss_cons, ↓FL.then_nx, ↓FL.then_rt, ↓FL.then_bk, ↓FL.then_ct, ↓retW_nx, ↓retW_rt, ↓s_expr, ↓s_ret, ↓s_retN, ↓s_set, ↓s_setc, ↓s_setix, ↓s_iff, ↓s_for, ↓s_brk, ↓s_cont, ↓s_pass, ↓v_var, ↓varD_some, ↓v_int, ↓v_str, ↓v_bl, ↓v_non, ↓v_op2, ↓v_cmp, ↓v_neg, ↓v_nt, ↓v_and, ↓v_or, ↓and1, ↓or1, ↓and2, ↓or2, ↓andT1, ↓orT1, ↓andT2, ↓orT2, ↓v_ife, ↓l_nil, ↓l_cons, ↓v_tup, ↓v_lst, ↓v_ix, ↓o_no, ↓o_yes, ↓inD1_int, ↓v_sl, ↓v_bc, ↓v_isi, ↓v_call, ↓v_app, ↓v_comp, ↓v_sortk, ↓v_sortl, ↓t_cmp, ↓t_nt, ↓t_and, ↓t_or, ↓t_var, ↓t_bl, ↓t_isi, ↓t_call, ↓blD_bl, ↓trD_bl, ↓itD_some, ↓i_seq, ↓i_enum, ↓i_rng1, ↓vO_some, ↓add_ii, ↓sub_ii, ↓lt_ii, ↓le_ii, ↓gt_ii, ↓ge_ii, ↓eq_ii, ↓abs_i, ↓int_i, ↓max_ii, ↓min_ii, ↓neg_i, ↓setW_some, ↓mul_ii, ↓mod_ii, ↓pow_ii, ↓div_ii, ↓reduceIte, and_self, ↓len_tup, List.getElem?_cons_zero, List.getElem?_cons_succ, List.set_cons_zero, List.set_cons_succ, wipeD, tT9_4]
        exact pick_v T' n (q.fr f' n) fun x h2 ex T2 f2 => ⟨by rw [List.length_append, hl]; rfl, snoc_all ha ex, T2, f'.trans f2⟩
      · rw [rng_len] at hl
        refine ⟨len_le (a := acc.length) (by omega) rfl, ?_⟩
        try simp (maxSteps := 2000000) (disch := decide) only [↓ss_nil, ↓ss_cons, ↓FL.then_nx, ↓FL.then_rt, ↓FL.then_bk, ↓FL.then_ct, ↓retW_nx, ↓retW_rt, ↓s_expr, ↓s_ret, ↓s_retN, ↓s_set, ↓s_setc, ↓s_setix, ↓s_iff, ↓s_for, ↓s_brk, ↓s_cont, ↓s_pass, ↓v_var, ↓varD_some, ↓v_int, ↓v_str, ↓v_bl, ↓v_non, ↓v_op2, ↓v_cmp, ↓v_neg, ↓v_nt, ↓v_and, ↓v_or, ↓and1, ↓or1, ↓and2, ↓or2, ↓andT1, ↓orT1, ↓andT2, ↓orT2, ↓v_ife, ↓l_nil, ↓l_cons, ↓v_tup, ↓v_lst, ↓v_ix, ↓o_no, ↓o_yes, ↓inD1_int, ↓v_sl, ↓v_bc, ↓v_isi, ↓v_call, ↓v_app, ↓v_comp, ↓v_sortk, ↓v_sortl, ↓t_cmp, ↓t_nt, ↓t_and, ↓t_or, ↓t_var, ↓t_bl, ↓t_isi, ↓t_call, ↓blD_bl, ↓trD_bl, ↓itD_some, ↓i_seq, ↓i_enum, ↓i_rng1, ↓vO_some, ↓add_ii, ↓sub_ii, ↓lt_ii, ↓le_ii, ↓gt_ii, ↓ge_ii, ↓eq_ii, ↓abs_i, ↓int_i, ↓max_ii, ↓min_ii, ↓neg_i, ↓setW_some, ↓mul_ii, ↓mod_ii, ↓pow_ii, ↓div_ii, ↓reduceIte, and_self, ↓len_tup, List.getElem?_cons_zero, List.getElem?_cons_succ, List.set_cons_zero, List.set_cons_succ, tT9_4]
        refine rngD_i (by omega) (by omega) ?_
        refine vCo_no (fun i ac h'' => ac.length = i ∧ (∀ d ∈ ac, El d) ∧ h'' = h' ++ [.lst acc]) ⟨rfl, by simp, rfl⟩ (fun _ _ _ _ _ _ z => nomatch z) (fun i ac h'' d hd ⟨hl', ha', eh⟩ => ?_) fun ac h'' ⟨hl', ha', eh⟩ => ?_
        · subst eh
          refine ⟨_, rfl, ?_⟩
          obtain ⟨y, rfl⟩ : ∃ y, d = D.int y := by
            obtain ⟨j, _, e⟩ := List.mem_map.mp (List.mem_of_getElem? hd)
            exact ⟨_, e.symm⟩
          have hp : 0 < (acc.length : Int) := by omega
          simp (maxSteps := 2000000) (disch := decide) only [↓ss_nil, ↓ss_cons, ↓FL.then_nx, ↓FL.then_rt, ↓FL.then_bk, ↓FL.then_ct, ↓retW_nx, ↓retW_rt, ↓s_expr, ↓s_ret, ↓s_retN, ↓s_set, ↓s_setc, ↓s_setix, ↓s_iff, ↓s_for, ↓s_brk, ↓s_cont, ↓s_pass, ↓v_var, ↓varD_some, ↓v_int, ↓v_str, ↓v_bl, ↓v_non, ↓v_op2, ↓v_cmp, ↓v_neg, ↓v_nt, ↓v_and, ↓v_or, ↓and1, ↓or1, ↓and2, ↓or2, ↓andT1, ↓orT1, ↓andT2, ↓orT2, ↓v_ife, ↓l_nil, ↓l_cons, ↓v_tup, ↓v_lst, ↓v_ix, ↓o_no, ↓o_yes, ↓inD1_int, ↓v_sl, ↓v_bc, ↓v_isi, ↓v_call, ↓v_app, ↓v_comp, ↓v_sortk, ↓v_sortl, ↓t_cmp, ↓t_nt, ↓t_and, ↓t_or, ↓t_var, ↓t_bl, ↓t_isi, ↓t_call, ↓blD_bl, ↓trD_bl, ↓itD_some, ↓i_seq, ↓i_enum, ↓i_rng1, ↓vO_some, ↓add_ii, ↓sub_ii, ↓lt_ii, ↓le_ii, ↓gt_ii, ↓ge_ii, ↓eq_ii, ↓abs_i, ↓int_i, ↓max_ii, ↓min_ii, ↓neg_i, ↓setW_some, ↓mul_ii, ↓mod_ii, ↓pow_ii, ↓div_ii, ↓reduceIte, and_self, ↓len_tup, List.getElem?_cons_zero, List.getElem?_cons_succ, List.set_cons_zero, List.set_cons_succ, wipeD, tT9_4, ↓len_ref app_new, ↓mod_ii hp]
          refine ix_lit app_new (Int.emod_nonneg _ (by omega)) (Int.emod_lt_of_pos _ hp) fun x hx => ?_
          exact ⟨by rw [List.length_append, hl']; rfl, snoc_all ha' (ha x hx), rfl⟩
        · subst eh
          rw [rng_len] at hl'
          refine ⟨len_le (a := ac.length) (by omega) rfl, (tuple_v (seqOf_ref app_new)).mpr ?_⟩
          exact ⟨⟨ac, rfl, by omega, ha'⟩, T'.app.app, (f'.trans .app).trans .app⟩
    · first | trivial | exact ⟨rfl, rfl⟩
  rintro τ6 h6 ⟨rfl, rfl⟩
  refine ss_mid (fun τ' h' => ∃ (g : Nat), τ' = [some (.ref t), some (.ref p), some (.int m), some (.int z), some (.int c), some (.int f), none, some (.ref g), none, none, none] ∧ h'[g]? = some (.lst []) ∧ g ≠ t ∧ Tape t h' ∧ Fr t h h') ?_ ?_
  · simp (maxSteps := 2000000) (disch := decide) only [↓ss_nil, ↓ss_cons, ↓FL.then_nx, ↓FL.then_rt, ↓FL.then_bk, ↓FL.then_ct, ↓retW_nx, ↓retW_rt, ↓s_expr, ↓s_ret, ↓s_retN, ↓s_set, ↓s_setc, ↓s_setix, ↓s_iff, ↓s_for, ↓s_brk, ↓s_cont, ↓s_pass, ↓v_var, ↓varD_some, ↓v_int, ↓v_str, ↓v_bl, ↓v_non, ↓v_op2, ↓v_cmp, ↓v_neg, ↓v_nt, ↓v_and, ↓v_or, ↓and1, ↓or1, ↓and2, ↓or2, ↓andT1, ↓orT1, ↓andT2, ↓orT2, ↓v_ife, ↓l_nil, ↓l_cons, ↓v_tup, ↓v_lst, ↓v_ix, ↓o_no, ↓o_yes, ↓inD1_int, ↓v_sl, ↓v_bc, ↓v_isi, ↓v_call, ↓v_app, ↓v_comp, ↓v_sortk, ↓v_sortl, ↓t_cmp, ↓t_nt, ↓t_and, ↓t_or, ↓t_var, ↓t_bl, ↓t_isi, ↓t_call, ↓blD_bl, ↓trD_bl, ↓itD_some, ↓i_seq, ↓i_enum, ↓i_rng1, ↓vO_some, ↓add_ii, ↓sub_ii, ↓lt_ii, ↓le_ii, ↓gt_ii, ↓ge_ii, ↓eq_ii, ↓abs_i, ↓int_i, ↓max_ii, ↓min_ii, ↓neg_i, ↓setW_some, ↓mul_ii, ↓mod_ii, ↓pow_ii, ↓div_ii, ↓reduceIte, and_self, ↓len_tup, List.getElem?_cons_zero, List.getElem?_cons_succ, List.set_cons_zero, List.set_cons_succ, tT9_4]
    exact ⟨Nat.zero_le _, _, rfl, app_new, Nat.ne_of_gt T4.lt, T4.app, f4.trans .app⟩
  rintro τ7 h7 ⟨g, rfl, e7, ng, T7, f7⟩
  refine ss_mid (fun τ' h' => ∃ (g : Nat) (ds : List D) (a b k : Option D), τ' = [some (.ref t), some (.ref p), some (.int m), some (.int z), some (.int c), some (.int f), none, some (.ref g), a, b, k] ∧ h'[g]? = some (.lst ds) ∧ g ≠ t ∧ (∀ x ∈ ds, El x) ∧ (ds.length : Int) ≤ z + 4 ∧ Tape t h' ∧ Fr t h h') ?_ ?_
  · simp (maxSteps := 2000000) (disch := decide) only [↓ss_nil, ↓ss_cons, ↓FL.then_nx, ↓FL.then_rt, ↓FL.then_bk, ↓FL.then_ct, ↓retW_nx, ↓retW_rt, ↓s_expr, ↓s_ret, ↓s_retN, ↓s_set, ↓s_setc, ↓s_setix, ↓s_iff, ↓s_for, ↓s_brk, ↓s_cont, ↓s_pass, ↓v_var, ↓varD_some, ↓v_int, ↓v_str, ↓v_bl, ↓v_non, ↓v_op2, ↓v_cmp, ↓v_neg, ↓v_nt, ↓v_and, ↓v_or, ↓and1, ↓or1, ↓and2, ↓or2, ↓andT1, ↓orT1, ↓andT2, ↓orT2, ↓v_ife, ↓l_nil, ↓l_cons, ↓v_tup, ↓v_lst, ↓v_ix, ↓o_no, ↓o_yes, ↓inD1_int, ↓v_sl, ↓v_bc, ↓v_isi, ↓v_call, ↓v_app, ↓v_comp, ↓v_sortk, ↓v_sortl, ↓t_cmp, ↓t_nt, ↓t_and, ↓t_or, ↓t_var, ↓t_bl, ↓t_isi, ↓t_call, ↓blD_bl, ↓trD_bl, ↓itD_some, ↓i_seq, ↓i_enum, ↓i_rng1, ↓vO_some, ↓add_ii, ↓sub_ii, ↓lt_ii, ↓le_ii, ↓gt_ii, ↓ge_ii, ↓eq_ii, ↓abs_i, ↓int_i, ↓max_ii, ↓min_ii, ↓neg_i, ↓setW_some, ↓mul_ii, ↓mod_ii, ↓pow_ii, ↓div_ii, ↓reduceIte, and_self, ↓len_tup, List.getElem?_cons_zero, List.getElem?_cons_succ, List.set_cons_zero, List.set_cons_succ, tT9_4]
    refine rngD_i (by omega) (by omega) ?_
    refine for_sat (fun _ τ' h' => ∃ (g : Nat) (ds : List D) (a b k : Option D), τ' = [some (.ref t), some (.ref p), some (.int m), some (.int z), some (.int c), some (.int f), none, some (.ref g), a, b, k] ∧ h'[g]? = some (.lst ds) ∧ g ≠ t ∧ (∀ x ∈ ds, El x) ∧ (ds.length : Int) ≤ z + 4 ∧ Tape t h' ∧ Fr t h h')
      ⟨g, [], _, _, _, rfl, e7, ng, by simp, (by show ((0 : Nat) : Int) ≤ _; omega), T7, f7⟩ (fun _ _ _ _ _ _ z => nomatch z) (fun i τ' h' d hd ⟨g', ds, a, b, k, eτ, e', n', el, hl, T', f'⟩ => ?_) fun τ' h' s => s
    subst eτ
    refine ⟨_, rfl, ?_⟩
    simp (maxSteps := 2000000) (disch := decide) only [↓ss_nil, ↓ss_cons, ↓FL.then_nx, ↓FL.then_rt, ↓FL.then_bk, ↓FL.then_ct, ↓retW_nx, ↓retW_rt, ↓s_expr, ↓s_ret, ↓s_retN, ↓s_set, ↓s_setc, ↓s_setix, ↓s_iff, ↓s_for, ↓s_brk, ↓s_cont, ↓s_pass, ↓v_var, ↓varD_some, ↓v_int, ↓v_str, ↓v_bl, ↓v_non, ↓v_op2, ↓v_cmp, ↓v_neg, ↓v_nt, ↓v_and, ↓v_or, ↓and1, ↓or1, ↓and2, ↓or2, ↓andT1, ↓orT1, ↓andT2, ↓orT2, ↓v_ife, ↓l_nil, ↓l_cons, ↓v_tup, ↓v_lst, ↓v_ix, ↓o_no, ↓o_yes, ↓inD1_int, ↓v_sl, ↓v_bc, ↓v_isi, ↓v_call, ↓v_app, ↓v_comp, ↓v_sortk, ↓v_sortl, ↓t_cmp, ↓t_nt, ↓t_and, ↓t_or, ↓t_var, ↓t_bl, ↓t_isi, ↓t_call, ↓blD_bl, ↓trD_bl, ↓itD_some, ↓i_seq, ↓i_enum, ↓i_rng1, ↓vO_some, ↓add_ii, ↓sub_ii, ↓lt_ii, ↓le_ii, ↓gt_ii, ↓ge_ii, ↓eq_ii, ↓abs_i, ↓int_i, ↓max_ii, ↓min_ii, ↓neg_i, ↓setW_some, ↓mul_ii, ↓mod_ii, ↓pow_ii, ↓div_ii, ↓reduceIte, and_self, ↓len_tup, List.getElem?_cons_zero, List.getElem?_cons_succ, List.set_cons_zero, List.set_cons_succ, tT9_4, ↓len_ref e']
    have grow : ∀ (k : Int) (h1 h2 : Hd) (x : D) (P : D → Hd → Prop), 0 ≤ k → k ≤ 4 → (ds.length : Int) < z → El x → Tape t h2 → Fr t h h2 → h2[g']? = some (.lst ds) →
        (∀ g'' ds' h3, h3[g'']? = some (.lst ds') → g'' ≠ t → (∀ x ∈ ds', El x) → (ds'.length : Int) ≤ z + 4 → Tape t h3 → Fr t h h3 → P (.ref g'') h3) →
        vO (semO .mul (.ref h2.length) (.int k) (h2 ++ [.lst [x]])) fun y h3 => vO (semO .add (.ref g') y h3) P := fun k h1 h2 x P k0 k4 hz' ex T2 f2 e2 fin => by
      refine (mul_rep app_new k0 (by omega) (by show 1 ≤ 1000; decide)).mpr ?_
      have rl : (List.replicate k.toNat [x]).flatten.length = k.toNat := by simp
      refine (add_ll (app_at (app_at e2)) app_new (by rw [rl]; omega)).mpr ?_
      refine fin _ _ _ app_new (Nat.ne_of_gt (T2.app.app).lt) (fun y hy => ?_) (by rw [List.length_append, rl]; omega) T2.app.app.app (((f2.trans .app).trans .app).trans .app)
      rcases List.mem_append.mp hy with w | w
      · exact el y w
      · obtain ⟨l, hl', hy'⟩ := List.mem_flatten.mp w
        rw [List.eq_of_mem_replicate hl'] at hy'
        rw [List.mem_singleton.mp hy']; exact ex
    by_cases c1 : (ds.length : Int) < z
    · rw [if_pos (decide_eq_true c1)]
      by_cases c2 : c = 2
      · rw [if_pos (decide_eq_true c2)]
        refine draw_v T' (by decide) (by decide) fun v1 h1 a1 b1 T1 f1 => ?_
        refine add_ii.mpr ?_
        refine pick_v T1 n (q.fr (f'.trans f1) n) fun x h2 ex T2 f2 => ?_
        refine ⟨len_le (a := 1) (by decide) rfl, ?_⟩
        refine grow _ h1 h2 x _ (by omega) (by omega) c1 ex T2 ((f'.trans f1).trans f2) ((f1.trans f2).keep _ _ n' e') fun g2 ds' h3 r1 r2 r3 r4 r5 r6 => ?_
        exact ⟨g2, ds', _, _, _, rfl, r1, r2, r3, r4, r5, r6⟩
      · rw [if_neg (by simp [c2])]
        refine pick_v T' n (q.fr f' n) fun x h2 ex T2 f2 => ?_
        refine ⟨len_le (a := 1) (by decide) rfl, ?_⟩
        refine grow _ h' h2 x _ (by decide) (by decide) c1 ex T2 (f'.trans f2) (f2.keep _ _ n' e') fun g2 ds' h3 r1 r2 r3 r4 r5 r6 => ?_
        exact ⟨g2, ds', _, _, _, rfl, r1, r2, r3, r4, r5, r6⟩
    · rw [if_neg (by simp [c1])]
      exact ⟨g', ds, _, _, _, rfl, e', n', el, hl, T', f'⟩
  rintro τ8 h8 ⟨g', ds, a, b, k, rfl, e', n', el, hl, T', f'⟩
  simp (maxSteps := 2000000) (disch := decide) only [↓ss_nil, ↓ss_cons, ↓FL.then_nx, ↓FL.then_rt, ↓FL.then_bk, ↓FL.then_ct, ↓retW_nx, ↓retW_rt, ↓s_expr, ↓s_ret, ↓s_retN, ↓s_set, ↓s_setc, ↓s_setix, ↓s_iff, ↓s_for, ↓s_brk, ↓s_cont, ↓s_pass, ↓v_var, ↓varD_some, ↓v_int, ↓v_str, ↓v_bl, ↓v_non, ↓v_op2, ↓v_cmp, ↓v_neg, ↓v_nt, ↓v_and, ↓v_or, ↓and1, ↓or1, ↓and2, ↓or2, ↓andT1, ↓orT1, ↓andT2, ↓orT2, ↓v_ife, ↓l_nil, ↓l_cons, ↓v_tup, ↓v_lst, ↓v_ix, ↓o_no, ↓o_yes, ↓inD1_int, ↓v_sl, ↓v_bc, ↓v_isi, ↓v_call, ↓v_app, ↓v_comp, ↓v_sortk, ↓v_sortl, ↓t_cmp, ↓t_nt, ↓t_and, ↓t_or, ↓t_var, ↓t_bl, ↓t_isi, ↓t_call, ↓blD_bl, ↓trD_bl, ↓itD_some, ↓i_seq, ↓i_enum, ↓i_rng1, ↓vO_some, ↓add_ii, ↓sub_ii, ↓lt_ii, ↓le_ii, ↓gt_ii, ↓ge_ii, ↓eq_ii, ↓abs_i, ↓int_i, ↓max_ii, ↓min_ii, ↓neg_i, ↓setW_some, ↓mul_ii, ↓mod_ii, ↓pow_ii, ↓div_ii, ↓reduceIte, and_self, ↓len_tup, List.getElem?_cons_zero, List.getElem?_cons_succ, List.set_cons_zero, List.set_cons_succ, tT9_4]
  refine (sl_ref e').mpr ((tuple_v (seqOf_ref app_new)).mpr ?_)
  exact ⟨⟨_, rfl, Int.le_trans (cut_len hz.1) hz.2, fun x hx => el x (cut_mem hx)⟩, T'.app, f'.trans .app⟩
end DL

set_option Elab.async false
set_option linter.all false
set_option maxRecDepth 100000
set_option maxHeartbeats 1000000
namespace DL
open PySem PySem.Spec PyProof.Rows L2
theorem draw_w {t : Nat} {h : Hd} {P : D → Hd → Prop} {k : Int} (T : Tape t h) (n1 : 1 ≤ k) (n2 : k ≤ 4294967296) (q : ∀ v h1, 0 ≤ v → v < k → Tape t h1 → Fr t h h1 → P (.int v) h1) : vC fF4 [.ref t, .int k] h P := draw_v T n1 n2 q
/-- an edit -/
inductive Ed (k : Nat) : D → Prop
  | mk (s e : Int) (ins : List D) (hi : ∀ x ∈ ins, El x) (hl : ins.length ≤ k) : Ed k (.tup [.int s, .int e, .tup ins])
theorem Ed.up {d : D} (h : Ed 4 d) : Ed 5 d := by
  cases h with
  | mk s e ins hi hl => exact .mk s e ins hi (by omega)
theorem tT11_4 : tT11 4 = fF4 := rfl
theorem app_sat {n : Nat} {h : Hd} {P : D → Hd → Prop} {xs : List D} {x : D} (e : h[n]? = some (.lst xs)) (z : xs.length ≤ 100000) (q : P .non (h.set n (.lst (xs ++ [x])))) : isLst h (.ref n) = true ∧ vO (semM .append (.ref n) [x] h) P := by
  refine ⟨by simp only [isLst, e], ?_⟩
  have : semM .append (.ref n) [x] h = some (.non, h.set n (.lst (xs ++ [x]))) := by
    simp only [semM, appendD, e]
    rw [if_pos (by rw [sizeLine_eq]; omega)]
  rw [this]; exact q
theorem Fr.put {t n : Nat} {h h1 : Hd} {o : OD} (f : Fr t h h1) (e : h.length ≤ n) : Fr t h (h1.set n o) := ⟨by rw [List.length_set]; exact f.len, fun i u ni ei => by
  rw [List.getElem?_set_ne (by have := (List.getElem?_eq_some_iff.mp ei).1; omega)]
  exact f.keep i u ni ei⟩
theorem Tape.sput {t n : Nat} {h : Hd} {o : OD} (T : Tape t h) (e : t < n) : Tape t (h.set n o) := by
  obtain ⟨s, a, b, c, ns, e1, r1, r2, r3⟩ := T.ex
  exact ⟨s, a, b, c, ns, by rw [List.getElem?_set_ne (Nat.ne_of_gt e)]; exact e1, by rw [List.getElem?_set_ne (by omega)]; exact r1, r2, r3⟩
theorem tT11_all : tT11 4 = fF4 := rfl
theorem edits_sat {t p : Nat} {m : Int} {bs : List D} {h : Hd} (T : Tape t h) (n : p ≠ t) (q : Pool p h) (hm : 0 ≤ m) (hm2 : m ≤ 1000) (hb : bs.length ≤ 1000) :
    (fF11 [.ref t, .tup bs, .ref p, .int m] h).sat fun d h' => (∃ es, d = .tup es ∧ (∀ x ∈ es, Ed 4 x) ∧ (es.length : Int) ≤ m) ∧ Tape t h' ∧ Fr t h h' := by
  refine runP_v (σ := [some (.ref t), some (.tup bs), some (.ref p), some (.int m), none, none, none, none, none, none, none]) (by rfl) (by rfl) ?_
  unfold bB11
  refine ss_mid (fun τ' h' => τ' = [some (.ref t), some (.tup bs), some (.ref p), some (.int m), some (.ref h.length), none, none, none, none, none, none] ∧ h' = h ++ [.lst []]) ?_ ?_
  · simp (maxSteps := 2000000) (disch := decide) only [↓ss_nil, ↓ss_cons, ↓FL.then_nx, ↓FL.then_rt, ↓FL.then_bk, ↓FL.then_ct, ↓retW_nx, ↓retW_rt, ↓s_expr, ↓s_ret, ↓s_retN, ↓s_set, ↓s_setc, ↓s_setix, ↓s_iff, ↓s_for, ↓s_brk, ↓s_cont, ↓s_pass, ↓v_var, ↓varD_some, ↓v_int, ↓v_str, ↓v_bl, ↓v_non, ↓v_op2, ↓v_cmp, ↓v_neg, ↓v_nt, ↓v_and, ↓v_or, ↓and1, ↓or1, ↓and2, ↓or2, ↓andT1, ↓orT1, ↓andT2, ↓orT2, ↓v_ife, ↓l_nil, ↓l_cons, ↓v_tup, ↓v_lst, ↓v_ix, ↓o_no, ↓o_yes, ↓inD1_int, ↓v_sl, ↓v_bc, ↓v_isi, ↓v_call, ↓v_app, ↓v_comp, ↓v_sortk, ↓v_sortl, ↓t_cmp, ↓t_nt, ↓t_and, ↓t_or, ↓t_var, ↓t_bl, ↓t_isi, ↓t_call, ↓blD_bl, ↓trD_bl, ↓itD_some, ↓i_seq, ↓i_enum, ↓i_rng1, ↓vO_some, ↓add_ii, ↓sub_ii, ↓lt_ii, ↓le_ii, ↓gt_ii, ↓ge_ii, ↓eq_ii, ↓abs_i, ↓int_i, ↓max_ii, ↓min_ii, ↓neg_i, ↓setW_some, ↓mul_ii, ↓mod_ii, ↓pow_ii, ↓div_ii, ↓reduceIte, and_self, ↓len_tup, List.getElem?_cons_zero, List.getElem?_cons_succ, List.set_cons_zero, List.set_cons_succ]
    exact ⟨Nat.zero_le _, trivial⟩
  rintro τ1 h1 ⟨rfl, rfl⟩
  refine ss_mid (fun τ' h' => τ' = [some (.ref t), some (.tup bs), some (.ref p), some (.int m), some (.ref h.length), some (.int 0), none, none, none, none, none] ∧ h' = h ++ [.lst []]) ?_ ?_
  · simp (maxSteps := 2000000) (disch := decide) only [↓ss_nil, ↓ss_cons, ↓FL.then_nx, ↓FL.then_rt, ↓FL.then_bk, ↓FL.then_ct, ↓retW_nx, ↓retW_rt, ↓s_expr, ↓s_ret, ↓s_retN, ↓s_set, ↓s_setc, ↓s_setix, ↓s_iff, ↓s_for, ↓s_brk, ↓s_cont, ↓s_pass, ↓v_var, ↓varD_some, ↓v_int, ↓v_str, ↓v_bl, ↓v_non, ↓v_op2, ↓v_cmp, ↓v_neg, ↓v_nt, ↓v_and, ↓v_or, ↓and1, ↓or1, ↓and2, ↓or2, ↓andT1, ↓orT1, ↓andT2, ↓orT2, ↓v_ife, ↓l_nil, ↓l_cons, ↓v_tup, ↓v_lst, ↓v_ix, ↓o_no, ↓o_yes, ↓inD1_int, ↓v_sl, ↓v_bc, ↓v_isi, ↓v_call, ↓v_app, ↓v_comp, ↓v_sortk, ↓v_sortl, ↓t_cmp, ↓t_nt, ↓t_and, ↓t_or, ↓t_var, ↓t_bl, ↓t_isi, ↓t_call, ↓blD_bl, ↓trD_bl, ↓itD_some, ↓i_seq, ↓i_enum, ↓i_rng1, ↓vO_some, ↓add_ii, ↓sub_ii, ↓lt_ii, ↓le_ii, ↓gt_ii, ↓ge_ii, ↓eq_ii, ↓abs_i, ↓int_i, ↓max_ii, ↓min_ii, ↓neg_i, ↓setW_some, ↓mul_ii, ↓mod_ii, ↓pow_ii, ↓div_ii, ↓reduceIte, and_self, ↓len_tup, List.getElem?_cons_zero, List.getElem?_cons_succ, List.set_cons_zero, List.set_cons_succ]
  rintro τ1 h1 ⟨rfl, rfl⟩
  refine ss_mid (fun τ' h' => ∃ (pl : Int) (es : List D) (a b c d e : Option D), τ' = [some (.ref t), some (.tup bs), some (.ref p), some (.int m), some (.ref h.length), some (.int pl), a, b, c, d, e] ∧ h'[h.length]? = some (.lst es) ∧ (∀ x ∈ es, Ed 4 x) ∧ (es.length : Int) ≤ m ∧ Tape t h' ∧ Fr t h h') ?_ ?_
  · simp (maxSteps := 2000000) (disch := decide) only [↓ss_nil, ↓ss_cons, ↓FL.then_nx, ↓FL.then_rt, ↓FL.then_bk, ↓FL.then_ct, ↓retW_nx, ↓retW_rt, ↓s_expr, ↓s_ret, ↓s_retN, ↓s_set, ↓s_setc, ↓s_setix, ↓s_iff, ↓s_for, ↓s_brk, ↓s_cont, ↓s_pass, ↓v_var, ↓varD_some, ↓v_int, ↓v_str, ↓v_bl, ↓v_non, ↓v_op2, ↓v_cmp, ↓v_neg, ↓v_nt, ↓v_and, ↓v_or, ↓and1, ↓or1, ↓and2, ↓or2, ↓andT1, ↓orT1, ↓andT2, ↓orT2, ↓v_ife, ↓l_nil, ↓l_cons, ↓v_tup, ↓v_lst, ↓v_ix, ↓o_no, ↓o_yes, ↓inD1_int, ↓v_sl, ↓v_bc, ↓v_isi, ↓v_call, ↓v_app, ↓v_comp, ↓v_sortk, ↓v_sortl, ↓t_cmp, ↓t_nt, ↓t_and, ↓t_or, ↓t_var, ↓t_bl, ↓t_isi, ↓t_call, ↓blD_bl, ↓trD_bl, ↓itD_some, ↓i_seq, ↓i_enum, ↓i_rng1, ↓vO_some, ↓add_ii, ↓sub_ii, ↓lt_ii, ↓le_ii, ↓gt_ii, ↓ge_ii, ↓eq_ii, ↓abs_i, ↓int_i, ↓max_ii, ↓min_ii, ↓neg_i, ↓setW_some, ↓mul_ii, ↓mod_ii, ↓pow_ii, ↓div_ii, ↓reduceIte, and_self, ↓len_tup, List.getElem?_cons_zero, List.getElem?_cons_succ, List.set_cons_zero, List.set_cons_succ, tT11_4]
    refine rngD_i (by omega) (by omega) ?_
    refine for_sat (fun i τ' h' => ∃ (pl : Int) (es : List D) (a b c d e : Option D), τ' = [some (.ref t), some (.tup bs), some (.ref p), some (.int m), some (.ref h.length), some (.int pl), a, b, c, d, e] ∧ h'[h.length]? = some (.lst es) ∧ (∀ x ∈ es, Ed 4 x) ∧ es.length ≤ i ∧ Tape t h' ∧ Fr t h h')
      ⟨0, [], _, _, _, _, _, rfl, app_new, by simp, Nat.le_refl _, T.app, .app⟩ (fun _ _ _ _ _ _ z => nomatch z) (fun i τ' h' dd hd ⟨pl, es, a, b, c, d, e, eτ, e4, ee, el, T', f'⟩ => ?_) fun τ' h' ⟨pl, es, a, b, c, d, e, eτ, e4, ee, el, T', f'⟩ => ?_
    · subst eτ
      have hi : i < m.toNat := by
        have := (List.getElem?_eq_some_iff.mp hd).1
        rwa [rng_len] at this
      refine ⟨_, rfl, ?_⟩
      -- start, end
      refine ss_mid (fun τ'' h'' => ∃ st : Int, τ'' = [some (.ref t), some (.tup bs), some (.ref p), some (.int m), some (.ref h.length), some (.int pl), some dd, some (.int st), c, d, e] ∧ h''[h.length]? = some (.lst es) ∧ Tape t h'' ∧ Fr t h h'') ?_ ?_
      · simp (maxSteps := 2000000) (disch := decide) only [↓ss_nil, ↓ss_cons, ↓FL.then_nx, ↓FL.then_rt, ↓FL.then_bk, ↓FL.then_ct, ↓retW_nx, ↓retW_rt, ↓s_expr, ↓s_ret, ↓s_retN, ↓s_set, ↓s_setc, ↓s_setix, ↓s_iff, ↓s_for, ↓s_brk, ↓s_cont, ↓s_pass, ↓v_var, ↓varD_some, ↓v_int, ↓v_str, ↓v_bl, ↓v_non, ↓v_op2, ↓v_cmp, ↓v_neg, ↓v_nt, ↓v_and, ↓v_or, ↓and1, ↓or1, ↓and2, ↓or2, ↓andT1, ↓orT1, ↓andT2, ↓orT2, ↓v_ife, ↓l_nil, ↓l_cons, ↓v_tup, ↓v_lst, ↓v_ix, ↓o_no, ↓o_yes, ↓inD1_int, ↓v_sl, ↓v_bc, ↓v_isi, ↓v_call, ↓v_app, ↓v_comp, ↓v_sortk, ↓v_sortl, ↓t_cmp, ↓t_nt, ↓t_and, ↓t_or, ↓t_var, ↓t_bl, ↓t_isi, ↓t_call, ↓blD_bl, ↓trD_bl, ↓itD_some, ↓i_seq, ↓i_enum, ↓i_rng1, ↓vO_some, ↓add_ii, ↓sub_ii, ↓lt_ii, ↓le_ii, ↓gt_ii, ↓ge_ii, ↓eq_ii, ↓abs_i, ↓int_i, ↓max_ii, ↓min_ii, ↓neg_i, ↓setW_some, ↓mul_ii, ↓mod_ii, ↓pow_ii, ↓div_ii, ↓reduceIte, and_self, ↓len_tup, List.getElem?_cons_zero, List.getElem?_cons_succ, List.set_cons_zero, List.set_cons_succ, tT11_4]
        refine draw_v T' (by decide) (by decide) fun v h2 v0 v1 T2 f2 => ?_
        exact ⟨pl + v, rfl, f2.keep _ _ (Nat.ne_of_gt T.lt) e4, T2, f'.trans f2⟩
      rintro τ2 h2 ⟨st, rfl, e42, T2, f2⟩
      refine ss_mid (fun τ'' h'' => ∃ en : Int, τ'' = [some (.ref t), some (.tup bs), some (.ref p), some (.int m), some (.ref h.length), some (.int pl), some dd, some (.int st), some (.int en), d, e] ∧ h''[h.length]? = some (.lst es) ∧ Tape t h'' ∧ Fr t h h'') ?_ ?_
      · simp (maxSteps := 2000000) (disch := decide) only [↓ss_nil, ↓ss_cons, ↓FL.then_nx, ↓FL.then_rt, ↓FL.then_bk, ↓FL.then_ct, ↓retW_nx, ↓retW_rt, ↓s_expr, ↓s_ret, ↓s_retN, ↓s_set, ↓s_setc, ↓s_setix, ↓s_iff, ↓s_for, ↓s_brk, ↓s_cont, ↓s_pass, ↓v_var, ↓varD_some, ↓v_int, ↓v_str, ↓v_bl, ↓v_non, ↓v_op2, ↓v_cmp, ↓v_neg, ↓v_nt, ↓v_and, ↓v_or, ↓and1, ↓or1, ↓and2, ↓or2, ↓andT1, ↓orT1, ↓andT2, ↓orT2, ↓v_ife, ↓l_nil, ↓l_cons, ↓v_tup, ↓v_lst, ↓v_ix, ↓o_no, ↓o_yes, ↓inD1_int, ↓v_sl, ↓v_bc, ↓v_isi, ↓v_call, ↓v_app, ↓v_comp, ↓v_sortk, ↓v_sortl, ↓t_cmp, ↓t_nt, ↓t_and, ↓t_or, ↓t_var, ↓t_bl, ↓t_isi, ↓t_call, ↓blD_bl, ↓trD_bl, ↓itD_some, ↓i_seq, ↓i_enum, ↓i_rng1, ↓vO_some, ↓add_ii, ↓sub_ii, ↓lt_ii, ↓le_ii, ↓gt_ii, ↓ge_ii, ↓eq_ii, ↓abs_i, ↓int_i, ↓max_ii, ↓min_ii, ↓neg_i, ↓setW_some, ↓mul_ii, ↓mod_ii, ↓pow_ii, ↓div_ii, ↓reduceIte, and_self, ↓len_tup, List.getElem?_cons_zero, List.getElem?_cons_succ, List.set_cons_zero, List.set_cons_succ, tT11_4]
        refine ⟨len_le (a := 5) (by decide) rfl, ?_⟩
        refine draw_v T2.app (by decide) (by decide) fun v h3 v0 v1 T3 f3 => ?_
        refine ix_lit (Fr.new T2 f3) v0 v1 fun k hk => ?_
        obtain ⟨n, rfl⟩ : ∃ n : Int, k = .int n := by
          simp only [List.mem_cons, List.not_mem_nil, or_false] at hk
          rcases hk with rfl | rfl | rfl | rfl | rfl <;> exact ⟨_, rfl⟩
        exact ⟨st + n, rfl, f3.keep _ _ (Nat.ne_of_gt T.lt) (app_at e42), T3, (f2.trans .app).trans f3⟩
      rintro τ3 h3 ⟨en, rfl, e43, T3, f3⟩
      refine ss_mid (fun τ'' h'' => ∃ ins : List D, (∀ x ∈ ins, El x) ∧ ins.length ≤ 4 ∧ τ'' = [some (.ref t), some (.tup bs), some (.ref p), some (.int m), some (.ref h.length), some (.int pl), some dd, some (.int st), some (.int en), some (.tup ins), e] ∧ h''[h.length]? = some (.lst es) ∧ Tape t h'' ∧ Fr t h h'') ?_ ?_
      · simp (maxSteps := 2000000) (disch := decide) only [↓ss_nil, ↓ss_cons, ↓FL.then_nx, ↓FL.then_rt, ↓FL.then_bk, ↓FL.then_ct, ↓retW_nx, ↓retW_rt, ↓s_expr, ↓s_ret, ↓s_retN, ↓s_set, ↓s_setc, ↓s_setix, ↓s_iff, ↓s_for, ↓s_brk, ↓s_cont, ↓s_pass, ↓v_var, ↓varD_some, ↓v_int, ↓v_str, ↓v_bl, ↓v_non, ↓v_op2, ↓v_cmp, ↓v_neg, ↓v_nt, ↓v_and, ↓v_or, ↓and1, ↓or1, ↓and2, ↓or2, ↓andT1, ↓orT1, ↓andT2, ↓orT2, ↓v_ife, ↓l_nil, ↓l_cons, ↓v_tup, ↓v_lst, ↓v_ix, ↓o_no, ↓o_yes, ↓inD1_int, ↓v_sl, ↓v_bc, ↓v_isi, ↓v_call, ↓v_app, ↓v_comp, ↓v_sortk, ↓v_sortl, ↓t_cmp, ↓t_nt, ↓t_and, ↓t_or, ↓t_var, ↓t_bl, ↓t_isi, ↓t_call, ↓blD_bl, ↓trD_bl, ↓itD_some, ↓i_seq, ↓i_enum, ↓i_rng1, ↓vO_some, ↓add_ii, ↓sub_ii, ↓lt_ii, ↓le_ii, ↓gt_ii, ↓ge_ii, ↓eq_ii, ↓abs_i, ↓int_i, ↓max_ii, ↓min_ii, ↓neg_i, ↓setW_some, ↓mul_ii, ↓mod_ii, ↓pow_ii, ↓div_ii, ↓reduceIte, and_self, ↓len_tup, List.getElem?_cons_zero, List.getElem?_cons_succ, List.set_cons_zero, List.set_cons_succ, tT11_4]
        refine draw_v T3 (by decide) (by decide) fun v h4 v0 v1 T4 f4 => ?_
        refine rngD_i (by omega) (by omega) ?_
        refine vCo_no (fun i acc h' => acc.length = i ∧ (∀ d ∈ acc, El d) ∧ h'[h.length]? = some (.lst es) ∧ Tape t h' ∧ Fr t h h') ⟨rfl, by simp, f4.keep _ _ (Nat.ne_of_gt T.lt) e43, T4, f3.trans f4⟩ (fun _ _ _ _ _ _ z => nomatch z) (fun i acc h' d hd ⟨hl, ha, e5, T', f'⟩ => ?_) fun acc h' ⟨hl, ha, e5, T', f'⟩ => ?_
        · refine ⟨_, rfl, ?_⟩
          simp (maxSteps := 2000000) (disch := decide) only [↓ss_nil, ↓ss_cons, ↓FL.then_nx, ↓FL.then_rt, ↓FL.then_bk, ↓FL.then_ct, ↓retW_nx, ↓retW_rt, ↓s_expr, ↓s_ret, ↓s_retN, ↓s_set, ↓s_setc, ↓s_setix, ↓s_iff, ↓s_for, ↓s_brk, ↓s_cont, ↓s_pass, ↓v_var, ↓varD_some, ↓v_int, ↓v_str, ↓v_bl, ↓v_non, ↓v_op2, ↓v_cmp, ↓v_neg, ↓v_nt, ↓v_and, ↓v_or, ↓and1, ↓or1, ↓and2, ↓or2, ↓andT1, ↓orT1, ↓andT2, ↓orT2, ↓v_ife, ↓l_nil, ↓l_cons, ↓v_tup, ↓v_lst, ↓v_ix, ↓o_no, ↓o_yes, ↓inD1_int, ↓v_sl, ↓v_bc, ↓v_isi, ↓v_call, ↓v_app, ↓v_comp, ↓v_sortk, ↓v_sortl, ↓t_cmp, ↓t_nt, ↓t_and, ↓t_or, ↓t_var, ↓t_bl, ↓t_isi, ↓t_call, ↓blD_bl, ↓trD_bl, ↓itD_some, ↓i_seq, ↓i_enum, ↓i_rng1, ↓vO_some, ↓add_ii, ↓sub_ii, ↓lt_ii, ↓le_ii, ↓gt_ii, ↓ge_ii, ↓eq_ii, ↓abs_i, ↓int_i, ↓max_ii, ↓min_ii, ↓neg_i, ↓setW_some, ↓mul_ii, ↓mod_ii, ↓pow_ii, ↓div_ii, ↓reduceIte, and_self, ↓len_tup, List.getElem?_cons_zero, List.getElem?_cons_succ, List.set_cons_zero, List.set_cons_succ, wipeD, tT11_4]
          exact pick_v T' n (q.fr f' n) fun x h2 ex T2 f2 => ⟨by rw [List.length_append, hl]; rfl, snoc_all ha ex, f2.keep _ _ (Nat.ne_of_gt T.lt) e5, T2, f'.trans f2⟩
        · rw [rng_len] at hl
          refine ⟨len_le (a := acc.length) (by omega) rfl, (tuple_v (seqOf_ref app_new)).mpr ?_⟩
          exact ⟨acc, ha, by omega, rfl, app_at e5, T'.app, f'.trans .app⟩
      rintro τ4 h4 ⟨ins, hins, hil, rfl, e44, T4, f4⟩
      refine ss_mid (fun τ'' h'' => ∃ ins : List D, (∀ x ∈ ins, El x) ∧ ins.length ≤ 4 ∧ τ'' = [some (.ref t), some (.tup bs), some (.ref p), some (.int m), some (.ref h.length), some (.int pl), some dd, some (.int st), some (.int en), some (.tup ins), e] ∧ h''[h.length]? = some (.lst es) ∧ Tape t h'' ∧ Fr t h h'') ?_ ?_
      · obtain ⟨ps, ep, pl1, pl2, pe⟩ := q.fr f4 n
        match ps, pl1 with
        | x :: ps, _ =>
          simp (maxSteps := 2000000) (disch := decide) only [↓ss_nil, ↓ss_cons, ↓FL.then_nx, ↓FL.then_rt, ↓FL.then_bk, ↓FL.then_ct, ↓retW_nx, ↓retW_rt, ↓s_expr, ↓s_ret, ↓s_retN, ↓s_set, ↓s_setc, ↓s_setix, ↓s_iff, ↓s_for, ↓s_brk, ↓s_cont, ↓s_pass, ↓v_var, ↓varD_some, ↓v_int, ↓v_str, ↓v_bl, ↓v_non, ↓v_op2, ↓v_cmp, ↓v_neg, ↓v_nt, ↓v_and, ↓v_or, ↓and1, ↓or1, ↓and2, ↓or2, ↓andT1, ↓orT1, ↓andT2, ↓orT2, ↓v_ife, ↓l_nil, ↓l_cons, ↓v_tup, ↓v_lst, ↓v_ix, ↓o_no, ↓o_yes, ↓inD1_int, ↓v_sl, ↓v_bc, ↓v_isi, ↓v_call, ↓v_app, ↓v_comp, ↓v_sortk, ↓v_sortl, ↓t_cmp, ↓t_nt, ↓t_and, ↓t_or, ↓t_var, ↓t_bl, ↓t_isi, ↓t_call, ↓blD_bl, ↓trD_bl, ↓itD_some, ↓i_seq, ↓i_enum, ↓i_rng1, ↓vO_some, ↓add_ii, ↓sub_ii, ↓lt_ii, ↓le_ii, ↓gt_ii, ↓ge_ii, ↓eq_ii, ↓abs_i, ↓int_i, ↓max_ii, ↓min_ii, ↓neg_i, ↓setW_some, ↓mul_ii, ↓mod_ii, ↓pow_ii, ↓div_ii, ↓reduceIte, and_self, ↓len_tup, List.getElem?_cons_zero, List.getElem?_cons_succ, List.set_cons_zero, List.set_cons_succ, tT11_4, ↓ix_ref ep atI_0]
          split
          · split
            · exact ⟨len_le (a := 1) (by decide) rfl, [x], fun y hy => by rw [List.mem_singleton.mp hy]; exact pe x List.mem_cons_self, (by show 1 ≤ 4; decide), rfl, e44, T4, f4⟩
            · exact ⟨ins, hins, hil, rfl, e44, T4, f4⟩
          · exact ⟨ins, hins, hil, rfl, e44, T4, f4⟩
      rintro τ5 h5 ⟨ins, hins, hil, rfl, e45, T5, f5⟩
      simp (maxSteps := 2000000) (disch := decide) only [↓ss_nil, ↓ss_cons, ↓FL.then_nx, ↓FL.then_rt, ↓FL.then_bk, ↓FL.then_ct, ↓retW_nx, ↓retW_rt, ↓s_expr, ↓s_ret, ↓s_retN, ↓s_set, ↓s_setc, ↓s_setix, ↓s_iff, ↓s_for, ↓s_brk, ↓s_cont, ↓s_pass, ↓v_var, ↓varD_some, ↓v_int, ↓v_str, ↓v_bl, ↓v_non, ↓v_op2, ↓v_cmp, ↓v_neg, ↓v_nt, ↓v_and, ↓v_or, ↓and1, ↓or1, ↓and2, ↓or2, ↓andT1, ↓orT1, ↓andT2, ↓orT2, ↓v_ife, ↓l_nil, ↓l_cons, ↓v_tup, ↓v_lst, ↓v_ix, ↓o_no, ↓o_yes, ↓inD1_int, ↓v_sl, ↓v_bc, ↓v_isi, ↓v_call, ↓v_app, ↓v_comp, ↓v_sortk, ↓v_sortl, ↓t_cmp, ↓t_nt, ↓t_and, ↓t_or, ↓t_var, ↓t_bl, ↓t_isi, ↓t_call, ↓blD_bl, ↓trD_bl, ↓itD_some, ↓i_seq, ↓i_enum, ↓i_rng1, ↓vO_some, ↓add_ii, ↓sub_ii, ↓lt_ii, ↓le_ii, ↓gt_ii, ↓ge_ii, ↓eq_ii, ↓abs_i, ↓int_i, ↓max_ii, ↓min_ii, ↓neg_i, ↓setW_some, ↓mul_ii, ↓mod_ii, ↓pow_ii, ↓div_ii, ↓reduceIte, and_self, ↓len_tup, List.getElem?_cons_zero, List.getElem?_cons_succ, List.set_cons_zero, List.set_cons_succ, tT11_4]
      split
      · have hes : es.length ≤ 100000 := by omega
        refine ⟨by simp only [isLst, e45], len_le (a := 3) (by decide) rfl, ?_⟩
        refine (app_sat e45 hes ?_).2
        refine ⟨en + 1, es ++ [.tup [.int st, .int en, .tup ins]], _, _, _, _, _, rfl, set_at e45, snoc_all ee (.mk _ _ _ hins hil), by rw [List.length_append]; exact Nat.succ_le_succ el, T5.sput T.lt, f5.put (Nat.le_refl _)⟩
      · exact ⟨pl, es, _, _, _, _, _, rfl, e45, ee, by omega, T5, f5⟩
    · subst eτ
      rw [rng_len] at el
      exact ⟨pl, es, _, _, _, _, _, rfl, e4, ee, by omega, T', f'⟩
  rintro τ2 h2 ⟨pl, es, a, b, c, d, e, rfl, e4, ee, el, T', f'⟩
  simp (maxSteps := 2000000) (disch := decide) only [↓ss_nil, ↓ss_cons, ↓FL.then_nx, ↓FL.then_rt, ↓FL.then_bk, ↓FL.then_ct, ↓retW_nx, ↓retW_rt, ↓s_expr, ↓s_ret, ↓s_retN, ↓s_set, ↓s_setc, ↓s_setix, ↓s_iff, ↓s_for, ↓s_brk, ↓s_cont, ↓s_pass, ↓v_var, ↓varD_some, ↓v_int, ↓v_str, ↓v_bl, ↓v_non, ↓v_op2, ↓v_cmp, ↓v_neg, ↓v_nt, ↓v_and, ↓v_or, ↓and1, ↓or1, ↓and2, ↓or2, ↓andT1, ↓orT1, ↓andT2, ↓orT2, ↓v_ife, ↓l_nil, ↓l_cons, ↓v_tup, ↓v_lst, ↓v_ix, ↓o_no, ↓o_yes, ↓inD1_int, ↓v_sl, ↓v_bc, ↓v_isi, ↓v_call, ↓v_app, ↓v_comp, ↓v_sortk, ↓v_sortl, ↓t_cmp, ↓t_nt, ↓t_and, ↓t_or, ↓t_var, ↓t_bl, ↓t_isi, ↓t_call, ↓blD_bl, ↓trD_bl, ↓itD_some, ↓i_seq, ↓i_enum, ↓i_rng1, ↓vO_some, ↓add_ii, ↓sub_ii, ↓lt_ii, ↓le_ii, ↓gt_ii, ↓ge_ii, ↓eq_ii, ↓abs_i, ↓int_i, ↓max_ii, ↓min_ii, ↓neg_i, ↓setW_some, ↓mul_ii, ↓mod_ii, ↓pow_ii, ↓div_ii, ↓reduceIte, and_self, ↓len_tup, List.getElem?_cons_zero, List.getElem?_cons_succ, List.set_cons_zero, List.set_cons_succ]
  refine (tuple_v (seqOf_ref e4)).mpr ?_
  exact ⟨⟨es, rfl, ee, el⟩, T', f'⟩
end DL

set_option Elab.async false
set_option linter.all false
set_option maxRecDepth 100000
set_option maxHeartbeats 1000000
namespace DL
open PySem PySem.Spec PyProof.Rows L2
theorem itSeq_tup {ds : List D} {h : Hd} {P : ItD → Hd → Prop} : itD (itSeq (.tup ds) h) P h ↔ P ⟨ds, []⟩ h := Iff.rfl
theorem itSeq_ref {n : Nat} {ds : List D} {h : Hd} {P : ItD → Hd → Prop} (e : h[n]? = some (.lst ds)) : itD (itSeq (.ref n) h) P h ↔ P ⟨ds, [(n, ds)]⟩ h := by
  have : itSeq (.ref n) h = some ⟨ds, [(n, ds)]⟩ := by simp only [itSeq, e]
  rw [this]; exact Iff.rfl
theorem gd1 {n : Nat} {ds : List D} {h : Hd} (e : h[n]? = some (.lst ds)) : (ItD.mk ds [(n, ds)]).guard h := fun p hp => by rw [List.mem_singleton.mp hp]; exact e
theorem are_sat {c : Nat} {z : Int} {es : List D} {h : Hd} (e : h[c]? = some (.lst es)) (ee : ∀ x ∈ es, Ed 5 x) : (fF12 [.ref c, .int z] h).sat fun d h' => (∃ b, d = .bl b) ∧ h' = h := by
  refine runP_v (σ := [some (.ref c), some (.int z), none, none]) (by rfl) (by rfl) ?_
  unfold bB12
  simp (maxSteps := 2000000) (disch := decide) only [↓ss_nil, ↓ss_cons, ↓FL.then_nx, ↓FL.then_rt, ↓FL.then_bk, ↓FL.then_ct, ↓retW_nx, ↓retW_rt, ↓s_expr, ↓s_ret, ↓s_retN, ↓s_set, ↓s_setc, ↓s_setix, ↓s_iff, ↓s_for, ↓s_brk, ↓s_cont, ↓s_pass, ↓v_var, ↓varD_some, ↓v_int, ↓v_str, ↓v_bl, ↓v_non, ↓v_op2, ↓v_cmp, ↓v_neg, ↓v_nt, ↓v_and, ↓v_or, ↓and1, ↓or1, ↓and2, ↓or2, ↓andT1, ↓orT1, ↓andT2, ↓orT2, ↓v_ife, ↓l_nil, ↓l_cons, ↓v_tup, ↓v_lst, ↓v_ix, ↓o_no, ↓o_yes, ↓inD1_int, ↓v_sl, ↓v_bc, ↓v_isi, ↓v_call, ↓v_app, ↓v_comp, ↓v_sortk, ↓v_sortl, ↓t_cmp, ↓t_nt, ↓t_and, ↓t_or, ↓t_var, ↓t_bl, ↓t_isi, ↓t_call, ↓blD_bl, ↓trD_bl, ↓itD_some, ↓i_seq, ↓i_enum, ↓i_rng1, ↓vO_some, ↓add_ii, ↓sub_ii, ↓lt_ii, ↓le_ii, ↓gt_ii, ↓ge_ii, ↓eq_ii, ↓abs_i, ↓int_i, ↓max_ii, ↓min_ii, ↓neg_i, ↓setW_some, ↓mul_ii, ↓mod_ii, ↓pow_ii, ↓div_ii, ↓reduceIte, and_self, ↓len_tup, List.getElem?_cons_zero, List.getElem?_cons_succ, List.set_cons_zero, List.set_cons_succ, ↓itSeq_ref e]
  refine for_sat (fun _ τ' h' => h' = h ∧ ∃ (pl : Int) (a : Option D), τ' = [some (.ref c), some (.int z), some (.int pl), a]) ⟨rfl, _, _, rfl⟩ (fun _ _ h' _ ⟨eh, _⟩ => eh ▸ gd1 e) (fun i τ' h' d hd ⟨eh, pl, a, eτ⟩ => ?_) fun τ' h' ⟨eh, pl, a, eτ⟩ => ?_
  · subst eh eτ
    cases ee d (List.mem_of_getElem? hd) with
    | mk s en ins hi hl =>
      refine ⟨_, rfl, ?_⟩
      simp (maxSteps := 2000000) (disch := decide) only [↓ss_nil, ↓ss_cons, ↓FL.then_nx, ↓FL.then_rt, ↓FL.then_bk, ↓FL.then_ct, ↓retW_nx, ↓retW_rt, ↓s_expr, ↓s_ret, ↓s_retN, ↓s_set, ↓s_setc, ↓s_setix, ↓s_iff, ↓s_for, ↓s_brk, ↓s_cont, ↓s_pass, ↓v_var, ↓varD_some, ↓v_int, ↓v_str, ↓v_bl, ↓v_non, ↓v_op2, ↓v_cmp, ↓v_neg, ↓v_nt, ↓v_and, ↓v_or, ↓and1, ↓or1, ↓and2, ↓or2, ↓andT1, ↓orT1, ↓andT2, ↓orT2, ↓v_ife, ↓l_nil, ↓l_cons, ↓v_tup, ↓v_lst, ↓v_ix, ↓o_no, ↓o_yes, ↓inD1_int, ↓v_sl, ↓v_bc, ↓v_isi, ↓v_call, ↓v_app, ↓v_comp, ↓v_sortk, ↓v_sortl, ↓t_cmp, ↓t_nt, ↓t_and, ↓t_or, ↓t_var, ↓t_bl, ↓t_isi, ↓t_call, ↓blD_bl, ↓trD_bl, ↓itD_some, ↓i_seq, ↓i_enum, ↓i_rng1, ↓vO_some, ↓add_ii, ↓sub_ii, ↓lt_ii, ↓le_ii, ↓gt_ii, ↓ge_ii, ↓eq_ii, ↓abs_i, ↓int_i, ↓max_ii, ↓min_ii, ↓neg_i, ↓setW_some, ↓mul_ii, ↓mod_ii, ↓pow_ii, ↓div_ii, ↓reduceIte, and_self, ↓len_tup, List.getElem?_cons_zero, List.getElem?_cons_succ, List.set_cons_zero, List.set_cons_succ, ↓ix_tup atI_0, ↓ix_tup atI_1, ↓ix_tup atI_2]
      repeat' split
      all_goals first | exact ⟨⟨_, rfl⟩, rfl⟩ | exact ⟨rfl, _, _, rfl⟩ | exact ⟨trivial, _, _, rfl⟩ | exact ⟨⟨_, rfl⟩, trivial⟩
  · subst eh eτ
    simp (maxSteps := 2000000) (disch := decide) only [↓ss_nil, ↓ss_cons, ↓FL.then_nx, ↓FL.then_rt, ↓FL.then_bk, ↓FL.then_ct, ↓retW_nx, ↓retW_rt, ↓s_expr, ↓s_ret, ↓s_retN, ↓s_set, ↓s_setc, ↓s_setix, ↓s_iff, ↓s_for, ↓s_brk, ↓s_cont, ↓s_pass, ↓v_var, ↓varD_some, ↓v_int, ↓v_str, ↓v_bl, ↓v_non, ↓v_op2, ↓v_cmp, ↓v_neg, ↓v_nt, ↓v_and, ↓v_or, ↓and1, ↓or1, ↓and2, ↓or2, ↓andT1, ↓orT1, ↓andT2, ↓orT2, ↓v_ife, ↓l_nil, ↓l_cons, ↓v_tup, ↓v_lst, ↓v_ix, ↓o_no, ↓o_yes, ↓inD1_int, ↓v_sl, ↓v_bc, ↓v_isi, ↓v_call, ↓v_app, ↓v_comp, ↓v_sortk, ↓v_sortl, ↓t_cmp, ↓t_nt, ↓t_and, ↓t_or, ↓t_var, ↓t_bl, ↓t_isi, ↓t_call, ↓blD_bl, ↓trD_bl, ↓itD_some, ↓i_seq, ↓i_enum, ↓i_rng1, ↓vO_some, ↓add_ii, ↓sub_ii, ↓lt_ii, ↓le_ii, ↓gt_ii, ↓ge_ii, ↓eq_ii, ↓abs_i, ↓int_i, ↓max_ii, ↓min_ii, ↓neg_i, ↓setW_some, ↓mul_ii, ↓mod_ii, ↓pow_ii, ↓div_ii, ↓reduceIte, and_self, ↓len_tup, List.getElem?_cons_zero, List.getElem?_cons_succ, List.set_cons_zero, List.set_cons_succ]
    exact ⟨⟨_, rfl⟩, trivial⟩
theorem are_v {c : Nat} {z : Int} {es : List D} {h : Hd} {P : D → Hd → Prop} (e : h[c]? = some (.lst es)) (ee : ∀ x ∈ es, Ed 5 x) (q : ∀ b, P (.bl b) h) : vC fF12 [.ref c, .int z] h P := vC.mono (are_sat e ee) fun d h' ⟨⟨b, e⟩, eh⟩ => by subst e eh; exact q b
end DL

set_option Elab.async false
set_option linter.all false
set_option maxRecDepth 100000
set_option maxHeartbeats 1000000
namespace DL
open PySem PySem.Spec PyProof.Rows L2
theorem pures_of {l : List D} (h : ∀ x ∈ l, D.pure x = true) : D.pures l = true := by
  induction l with
  | nil => rfl
  | cons a l ih =>
    show (D.pure a && D.pures l) = true
    rw [h a List.mem_cons_self, ih fun x hx => h x (List.mem_cons_of_mem _ hx)]; rfl
theorem depthAll_of {k : Nat} {l : List D} (h : ∀ x ∈ l, x.depth ≤ k) : PyData.depthAll (D.pys l) ≤ k := by
  induction l with
  | nil => exact Nat.zero_le _
  | cons a l ih =>
    show PyData.depthAll (a.py :: D.pys l) ≤ k
    have h1 := h a List.mem_cons_self
    have h2 := ih fun x hx => h x (List.mem_cons_of_mem _ hx)
    unfold D.depth at h1
    simp only [PyData.depthAll]
    omega
theorem tup_depth {k : Nat} {l : List D} (h : ∀ x ∈ l, x.depth ≤ k) : (D.tup l).depth ≤ k + 1 := by
  have := depthAll_of h
  show PyData.depth (.tuple (D.pys l)) ≤ k + 1
  simp only [PyData.depth]
  omega
theorem Sc.ok {d : D} (h : Sc d) : d.pure = true ∧ d.depth ≤ 0 := by
  cases h <;> exact ⟨rfl, Nat.le_refl _⟩
theorem El.ok {d : D} (h : El d) : d.pure = true ∧ d.depth ≤ 1 := by
  cases h with
  | sc h => exact ⟨h.ok.1, Nat.le_trans h.ok.2 (Nat.zero_le _)⟩
  | @pair a b h1 h2 =>
    have a : ∀ x ∈ [a, b], D.pure x = true ∧ x.depth ≤ 0 := fun x hx => by
      rcases List.mem_cons.mp hx with rfl | hx
      · exact h1.ok
      · rw [List.mem_singleton.mp hx]; exact h2.ok
    exact ⟨pures_of fun x hx => (a x hx).1, tup_depth fun x hx => (a x hx).2⟩
theorem Ed.ok {k : Nat} {d : D} (h : Ed k d) : d.pure = true ∧ d.depth ≤ 3 := by
  cases h with
  | mk s e ins hi hl =>
    have b : (D.tup ins).pure = true ∧ (D.tup ins).depth ≤ 2 := ⟨pures_of fun x hx => (hi x hx).ok.1, tup_depth fun x hx => (hi x hx).ok.2⟩
    have a : ∀ x ∈ [D.int s, D.int e, D.tup ins], D.pure x = true ∧ x.depth ≤ 2 := fun x hx => by
      simp only [List.mem_cons, List.not_mem_nil, or_false] at hx
      rcases hx with rfl | rfl | rfl
      · exact ⟨rfl, Nat.zero_le _⟩
      · exact ⟨rfl, Nat.zero_le _⟩
      · exact b
    exact ⟨pures_of fun x hx => (a x hx).1, tup_depth fun x hx => (a x hx).2⟩
theorem ne_v {a b : D} {h : Hd} {P : D → Hd → Prop} (ha : a.pure = true ∧ a.depth ≤ 3) (hb : b.pure = true ∧ b.depth ≤ 3) : vO (semC .ne a b h) P ↔ P (.bl !(PyData.eqv a.py b.py)) h := by
  have z : eqD a b = some (PyData.eqv a.py b.py) := by
    unfold eqD
    rw [if_pos ⟨ha.1, hb.1, by have := ha.2; omega⟩]
  have : semC .ne a b h = some (.bl !(PyData.eqv a.py b.py), h) := by simp only [semC, semEq, z, Option.map_some]; rfl
  rw [this]; exact Iff.rfl
def clB : D → D → Bool
  | .tup [.int s, .int e, x], .tup [.int s', .int e', y] => decide (s ≤ e') && (decide (s' ≤ e) && !(PyData.eqv (D.py (.tup [.int s, .int e, x])) (D.py (.tup [.int s', .int e', y]))))
  | _, _ => false
theorem clash_v {a b : D} {h : Hd} {P : D → Hd → Prop} (ha : Ed 5 a) (hb : Ed 5 b) (q : P (.bl (clB a b)) h) : vC fF0 [a, b] h P := by
  refine runP_v (σ := [some a, some b]) (by rfl) (by rfl) ?_
  unfold bB0
  have oa := ha.ok
  have ob := hb.ok
  cases ha with
  | mk s e ins hi hl =>
    cases hb with
    | mk s' e' ins' hi' hl' =>
      simp (maxSteps := 2000000) (disch := decide) only [↓ss_nil, ↓ss_cons, ↓FL.then_nx, ↓FL.then_rt, ↓FL.then_bk, ↓FL.then_ct, ↓retW_nx, ↓retW_rt, ↓s_expr, ↓s_ret, ↓s_retN, ↓s_set, ↓s_setc, ↓s_setix, ↓s_iff, ↓s_for, ↓s_brk, ↓s_cont, ↓s_pass, ↓v_var, ↓varD_some, ↓v_int, ↓v_str, ↓v_bl, ↓v_non, ↓v_op2, ↓v_cmp, ↓v_neg, ↓v_nt, ↓v_and, ↓v_or, ↓and1, ↓or1, ↓and2, ↓or2, ↓andT1, ↓orT1, ↓andT2, ↓orT2, ↓v_ife, ↓l_nil, ↓l_cons, ↓v_tup, ↓v_lst, ↓v_ix, ↓o_no, ↓o_yes, ↓inD1_int, ↓v_sl, ↓v_bc, ↓v_isi, ↓v_call, ↓v_app, ↓v_comp, ↓v_sortk, ↓v_sortl, ↓t_cmp, ↓t_nt, ↓t_and, ↓t_or, ↓t_var, ↓t_bl, ↓t_isi, ↓t_call, ↓blD_bl, ↓trD_bl, ↓itD_some, ↓i_seq, ↓i_enum, ↓i_rng1, ↓vO_some, ↓add_ii, ↓sub_ii, ↓lt_ii, ↓le_ii, ↓gt_ii, ↓ge_ii, ↓eq_ii, ↓abs_i, ↓int_i, ↓max_ii, ↓min_ii, ↓neg_i, ↓setW_some, ↓mul_ii, ↓mod_ii, ↓pow_ii, ↓div_ii, ↓reduceIte, and_self, ↓len_tup, List.getElem?_cons_zero, List.getElem?_cons_succ, List.set_cons_zero, List.set_cons_succ, ↓ix_tup atI_0, ↓ix_tup atI_1, ↓ix_tup atI_2, ↓ne_v oa ob]
      change P (.bl (decide (s ≤ e') && (decide (s' ≤ e) && !(PyData.eqv (D.py (.tup [.int s, .int e, .tup ins])) (D.py (.tup [.int s', .int e', .tup ins'])))))) h at q
      by_cases c1 : s ≤ e'
      · rw [if_pos (decide_eq_true c1)]
        rw [decide_eq_true c1, Bool.true_and] at q
        by_cases c2 : s' ≤ e
        · rw [if_pos (decide_eq_true c2)]
          rw [decide_eq_true c2, Bool.true_and] at q
          exact q
        · rw [if_neg (by simp [c2])]
          rw [decide_eq_false c2, Bool.false_and] at q
          exact q
      · rw [if_neg (by simp [c1])]
        rw [decide_eq_false c1, Bool.false_and] at q
        exact q
def cell (o t : List D) (i j : Nat) : Option D := if clB (o.getD i .non) (t.getD j .non) = true then some (.tup [.int (i : Int), .int (j : Int)]) else none
def row (o t : List D) (i n : Nat) : List D := (List.range n).filterMap (cell o t i)
def rows (o t : List D) (n : Nat) : List D := (List.range n).flatMap fun i => row o t i t.length
def prs (o t : List D) : List D := rows o t o.length
theorem row_succ {o t : List D} {i n : Nat} : row o t i (n + 1) = row o t i n ++ (cell o t i n).toList := by
  unfold row
  rw [List.range_succ, List.filterMap_append]
  congr 1
theorem rows_succ {o t : List D} {n : Nat} : rows o t (n + 1) = rows o t n ++ row o t n t.length := by
  unfold rows
  rw [List.range_succ, List.flatMap_append]
  simp
theorem row_len {o t : List D} {i n : Nat} : (row o t i n).length ≤ n := by
  unfold row
  exact Nat.le_trans (List.length_filterMap_le _ _) (by simp)
theorem rows_len {o t : List D} {n : Nat} : (rows o t n).length ≤ n * t.length := by
  induction n with
  | zero => exact Nat.zero_le _
  | succ n ih =>
    rw [rows_succ, List.length_append]
    have := row_len (o := o) (t := t) (i := n) (n := t.length)
    rw [Nat.succ_mul]; omega
theorem set_last {h : Hd} {a b : OD} : (h ++ [a]).set h.length b = h ++ [b] := by simp
theorem enum_get : ∀ {ds : List D} {k i : Nat}, (enumD k ds)[i]? = ds[i]?.map fun d => D.tup [.int ((k + i : Nat) : Int), d]
  | [], _, _ => rfl
  | d :: ds, k, 0 => rfl
  | d :: ds, k, i + 1 => by
    show (enumD (k + 1) ds)[i]? = ds[i]?.map _
    rw [enum_get]
    have : k + 1 + i = k + (i + 1) := by omega
    rw [this]
theorem enum_len : ∀ {ds : List D} {k : Nat}, (enumD k ds).length = ds.length
  | [], _ => rfl
  | d :: ds, k => congrArg (· + 1) enum_len
theorem itEnum_tup {ds : List D} {h : Hd} {P : ItD → Hd → Prop} : itD (itEnum (.tup ds) h) P h ↔ P ⟨enumD 0 ds, []⟩ h := Iff.rfl
theorem getD_of {l : List D} {i : Nat} {d : D} (e : l[i]? = some d) : l.getD i .non = d := by rw [List.getD_eq_getElem?_getD, e]; rfl
theorem cell_of {o t : List D} {i j : Nat} {a b : D} (e1 : o[i]? = some a) (e2 : t[j]? = some b) : cell o t i j = if clB a b = true then some (.tup [.int (i : Int), .int (j : Int)]) else none := by
  unfold cell; rw [getD_of e1, getD_of e2]
theorem tT1_0 : tT1 0 = fF0 := rfl
theorem clashes_v {o t : List D} {h : Hd} {P : D → Hd → Prop} (ho : ∀ x ∈ o, Ed 5 x) (ht : ∀ x ∈ t, Ed 5 x) (lo : o.length ≤ 10) (lt : t.length ≤ 10) (q : P (.tup (prs o t)) (h ++ [.lst (prs o t)])) : vC fF1 [.tup o, .tup t] h P := by
  refine runP_v (σ := [some (.tup o), some (.tup t), none, none, none, none, none]) (by rfl) (by rfl) ?_
  unfold bB1
  simp (maxSteps := 2000000) (disch := decide) only [↓ss_nil, ↓ss_cons, ↓FL.then_nx, ↓FL.then_rt, ↓FL.then_bk, ↓FL.then_ct, ↓retW_nx, ↓retW_rt, ↓s_expr, ↓s_ret, ↓s_retN, ↓s_set, ↓s_setc, ↓s_setix, ↓s_iff, ↓s_for, ↓s_brk, ↓s_cont, ↓s_pass, ↓v_var, ↓varD_some, ↓v_int, ↓v_str, ↓v_bl, ↓v_non, ↓v_op2, ↓v_cmp, ↓v_neg, ↓v_nt, ↓v_and, ↓v_or, ↓and1, ↓or1, ↓and2, ↓or2, ↓andT1, ↓orT1, ↓andT2, ↓orT2, ↓v_ife, ↓l_nil, ↓l_cons, ↓v_tup, ↓v_lst, ↓v_ix, ↓o_no, ↓o_yes, ↓inD1_int, ↓v_sl, ↓v_bc, ↓v_isi, ↓v_call, ↓v_app, ↓v_comp, ↓v_sortk, ↓v_sortl, ↓t_cmp, ↓t_nt, ↓t_and, ↓t_or, ↓t_var, ↓t_bl, ↓t_isi, ↓t_call, ↓blD_bl, ↓trD_bl, ↓itD_some, ↓i_seq, ↓i_enum, ↓i_rng1, ↓vO_some, ↓add_ii, ↓sub_ii, ↓lt_ii, ↓le_ii, ↓gt_ii, ↓ge_ii, ↓eq_ii, ↓abs_i, ↓int_i, ↓max_ii, ↓min_ii, ↓neg_i, ↓setW_some, ↓mul_ii, ↓mod_ii, ↓pow_ii, ↓div_ii, ↓reduceIte, and_self, ↓len_tup, List.getElem?_cons_zero, List.getElem?_cons_succ, List.set_cons_zero, List.set_cons_succ, tT1_0, ↓itEnum_tup]
  refine ⟨Nat.zero_le _, ?_⟩
  refine for_sat (fun i τ' h' => h' = h ++ [.lst (rows o t i)] ∧ ∃ (a b c d : Option D), τ' = [some (.tup o), some (.tup t), some (.ref h.length), a, b, c, d]) ⟨rfl, _, _, _, _, rfl⟩ (fun _ _ _ _ _ _ z => nomatch z) (fun i τ' h' x hx ⟨eh, a, b, c, d, eτ⟩ => ?_) fun τ' h' ⟨eh, a, b, c, d, eτ⟩ => ?_
  · subst eh eτ
    rw [enum_get, Nat.zero_add] at hx
    obtain ⟨x1, e1, rfl⟩ : ∃ x1, o[i]? = some x1 ∧ x = D.tup [.int (i : Int), x1] := by
      cases e : o[i]? with
      | none => rw [e] at hx; cases hx
      | some x1 => rw [e] at hx; cases hx; exact ⟨x1, rfl, rfl⟩
    have hi : i < o.length := (List.getElem?_eq_some_iff.mp e1).1
    refine ⟨_, rfl, ?_⟩
    simp (maxSteps := 2000000) (disch := decide) only [↓ss_nil, ↓ss_cons, ↓FL.then_nx, ↓FL.then_rt, ↓FL.then_bk, ↓FL.then_ct, ↓retW_nx, ↓retW_rt, ↓s_expr, ↓s_ret, ↓s_retN, ↓s_set, ↓s_setc, ↓s_setix, ↓s_iff, ↓s_for, ↓s_brk, ↓s_cont, ↓s_pass, ↓v_var, ↓varD_some, ↓v_int, ↓v_str, ↓v_bl, ↓v_non, ↓v_op2, ↓v_cmp, ↓v_neg, ↓v_nt, ↓v_and, ↓v_or, ↓and1, ↓or1, ↓and2, ↓or2, ↓andT1, ↓orT1, ↓andT2, ↓orT2, ↓v_ife, ↓l_nil, ↓l_cons, ↓v_tup, ↓v_lst, ↓v_ix, ↓o_no, ↓o_yes, ↓inD1_int, ↓v_sl, ↓v_bc, ↓v_isi, ↓v_call, ↓v_app, ↓v_comp, ↓v_sortk, ↓v_sortl, ↓t_cmp, ↓t_nt, ↓t_and, ↓t_or, ↓t_var, ↓t_bl, ↓t_isi, ↓t_call, ↓blD_bl, ↓trD_bl, ↓itD_some, ↓i_seq, ↓i_enum, ↓i_rng1, ↓vO_some, ↓add_ii, ↓sub_ii, ↓lt_ii, ↓le_ii, ↓gt_ii, ↓ge_ii, ↓eq_ii, ↓abs_i, ↓int_i, ↓max_ii, ↓min_ii, ↓neg_i, ↓setW_some, ↓mul_ii, ↓mod_ii, ↓pow_ii, ↓div_ii, ↓reduceIte, and_self, ↓len_tup, List.getElem?_cons_zero, List.getElem?_cons_succ, List.set_cons_zero, List.set_cons_succ, tT1_0, ↓itEnum_tup, setNs]
    refine for_sat (fun j τ' h' => h' = h ++ [.lst (rows o t i ++ row o t i j)] ∧ ∃ (c d : Option D), τ' = [some (.tup o), some (.tup t), some (.ref h.length), some (.int (i : Int)), some x1, c, d]) ⟨by unfold row; simp, _, _, rfl⟩ (fun _ _ _ _ _ _ z => nomatch z) (fun j τ' h' y hy ⟨eh, c, d, eτ⟩ => ?_) fun τ' h' ⟨eh, c, d, eτ⟩ => ?_
    · subst eh eτ
      rw [enum_get, Nat.zero_add] at hy
      obtain ⟨y1, e2, rfl⟩ : ∃ y1, t[j]? = some y1 ∧ y = D.tup [.int (j : Int), y1] := by
        cases e : t[j]? with
        | none => rw [e] at hy; cases hy
        | some y1 => rw [e] at hy; cases hy; exact ⟨y1, rfl, rfl⟩
      have hj : j < t.length := (List.getElem?_eq_some_iff.mp e2).1
      refine ⟨_, rfl, ?_⟩
      simp (maxSteps := 2000000) (disch := decide) only [↓ss_nil, ↓ss_cons, ↓FL.then_nx, ↓FL.then_rt, ↓FL.then_bk, ↓FL.then_ct, ↓retW_nx, ↓retW_rt, ↓s_expr, ↓s_ret, ↓s_retN, ↓s_set, ↓s_setc, ↓s_setix, ↓s_iff, ↓s_for, ↓s_brk, ↓s_cont, ↓s_pass, ↓v_var, ↓varD_some, ↓v_int, ↓v_str, ↓v_bl, ↓v_non, ↓v_op2, ↓v_cmp, ↓v_neg, ↓v_nt, ↓v_and, ↓v_or, ↓and1, ↓or1, ↓and2, ↓or2, ↓andT1, ↓orT1, ↓andT2, ↓orT2, ↓v_ife, ↓l_nil, ↓l_cons, ↓v_tup, ↓v_lst, ↓v_ix, ↓o_no, ↓o_yes, ↓inD1_int, ↓v_sl, ↓v_bc, ↓v_isi, ↓v_call, ↓v_app, ↓v_comp, ↓v_sortk, ↓v_sortl, ↓t_cmp, ↓t_nt, ↓t_and, ↓t_or, ↓t_var, ↓t_bl, ↓t_isi, ↓t_call, ↓blD_bl, ↓trD_bl, ↓itD_some, ↓i_seq, ↓i_enum, ↓i_rng1, ↓vO_some, ↓add_ii, ↓sub_ii, ↓lt_ii, ↓le_ii, ↓gt_ii, ↓ge_ii, ↓eq_ii, ↓abs_i, ↓int_i, ↓max_ii, ↓min_ii, ↓neg_i, ↓setW_some, ↓mul_ii, ↓mod_ii, ↓pow_ii, ↓div_ii, ↓reduceIte, and_self, ↓len_tup, List.getElem?_cons_zero, List.getElem?_cons_succ, List.set_cons_zero, List.set_cons_succ, tT1_0, setNs]
      refine clash_v (ho _ (List.mem_of_getElem? e1)) (ht _ (List.mem_of_getElem? e2)) ?_
      simp (maxSteps := 2000000) (disch := decide) only [↓ss_nil, ↓ss_cons, ↓FL.then_nx, ↓FL.then_rt, ↓FL.then_bk, ↓FL.then_ct, ↓retW_nx, ↓retW_rt, ↓s_expr, ↓s_ret, ↓s_retN, ↓s_set, ↓s_setc, ↓s_setix, ↓s_iff, ↓s_for, ↓s_brk, ↓s_cont, ↓s_pass, ↓v_var, ↓varD_some, ↓v_int, ↓v_str, ↓v_bl, ↓v_non, ↓v_op2, ↓v_cmp, ↓v_neg, ↓v_nt, ↓v_and, ↓v_or, ↓and1, ↓or1, ↓and2, ↓or2, ↓andT1, ↓orT1, ↓andT2, ↓orT2, ↓v_ife, ↓l_nil, ↓l_cons, ↓v_tup, ↓v_lst, ↓v_ix, ↓o_no, ↓o_yes, ↓inD1_int, ↓v_sl, ↓v_bc, ↓v_isi, ↓v_call, ↓v_app, ↓v_comp, ↓v_sortk, ↓v_sortl, ↓t_cmp, ↓t_nt, ↓t_and, ↓t_or, ↓t_var, ↓t_bl, ↓t_isi, ↓t_call, ↓blD_bl, ↓trD_bl, ↓itD_some, ↓i_seq, ↓i_enum, ↓i_rng1, ↓vO_some, ↓add_ii, ↓sub_ii, ↓lt_ii, ↓le_ii, ↓gt_ii, ↓ge_ii, ↓eq_ii, ↓abs_i, ↓int_i, ↓max_ii, ↓min_ii, ↓neg_i, ↓setW_some, ↓mul_ii, ↓mod_ii, ↓pow_ii, ↓div_ii, ↓reduceIte, and_self, ↓len_tup, List.getElem?_cons_zero, List.getElem?_cons_succ, List.set_cons_zero, List.set_cons_succ, row_succ, cell_of e1 e2]
      have bound : (rows o t i ++ row o t i j).length ≤ 100000 := by
        have h1 := rows_len (o := o) (t := t) (n := i)
        have h2 := row_len (o := o) (t := t) (i := i) (n := j)
        have h3 : i * t.length ≤ 10 * 10 := Nat.mul_le_mul (by omega) (by omega)
        rw [List.length_append]; omega
      split
      · refine ⟨by simp only [isLst, app_new], len_le (a := 2) (by decide) rfl, ?_⟩
        refine (app_sat app_new bound ?_).2
        rw [set_last]
        exact ⟨by simp, _, _, rfl⟩
      · exact ⟨by simp, _, _, rfl⟩
    · subst eh eτ
      rw [enum_len]
      exact ⟨by rw [rows_succ], _, _, _, _, rfl⟩
  · subst eh eτ
    rw [enum_len]
    simp (maxSteps := 2000000) (disch := decide) only [↓ss_nil, ↓ss_cons, ↓FL.then_nx, ↓FL.then_rt, ↓FL.then_bk, ↓FL.then_ct, ↓retW_nx, ↓retW_rt, ↓s_expr, ↓s_ret, ↓s_retN, ↓s_set, ↓s_setc, ↓s_setix, ↓s_iff, ↓s_for, ↓s_brk, ↓s_cont, ↓s_pass, ↓v_var, ↓varD_some, ↓v_int, ↓v_str, ↓v_bl, ↓v_non, ↓v_op2, ↓v_cmp, ↓v_neg, ↓v_nt, ↓v_and, ↓v_or, ↓and1, ↓or1, ↓and2, ↓or2, ↓andT1, ↓orT1, ↓andT2, ↓orT2, ↓v_ife, ↓l_nil, ↓l_cons, ↓v_tup, ↓v_lst, ↓v_ix, ↓o_no, ↓o_yes, ↓inD1_int, ↓v_sl, ↓v_bc, ↓v_isi, ↓v_call, ↓v_app, ↓v_comp, ↓v_sortk, ↓v_sortl, ↓t_cmp, ↓t_nt, ↓t_and, ↓t_or, ↓t_var, ↓t_bl, ↓t_isi, ↓t_call, ↓blD_bl, ↓trD_bl, ↓itD_some, ↓i_seq, ↓i_enum, ↓i_rng1, ↓vO_some, ↓add_ii, ↓sub_ii, ↓lt_ii, ↓le_ii, ↓gt_ii, ↓ge_ii, ↓eq_ii, ↓abs_i, ↓int_i, ↓max_ii, ↓min_ii, ↓neg_i, ↓setW_some, ↓mul_ii, ↓mod_ii, ↓pow_ii, ↓div_ii, ↓reduceIte, and_self, ↓len_tup, List.getElem?_cons_zero, List.getElem?_cons_succ, List.set_cons_zero, List.set_cons_succ]
    exact (tuple_v (seqOf_ref app_new)).mpr q
end DL

set_option Elab.async false
set_option linter.all false
set_option maxRecDepth 100000
set_option maxHeartbeats 1000000
namespace DL
open PySem PySem.Spec PyProof.Rows L2
def freshB (o : List D) (e : D) : Bool := !(o.any fun y => PyData.eqv y.py e.py)
theorem notin_v {a : D} {bs : List D} {h : Hd} {P : D → Hd → Prop} (ha : a.pure = true ∧ a.depth ≤ 3) (hb : D.pures bs = true) : vO (semC .notin a (.tup bs) h) P ↔ P (.bl (freshB bs a)) h := by
  have z : inD a bs = some (bs.any fun y => PyData.eqv y.py a.py) := by
    unfold inD
    rw [if_pos ⟨ha.1, hb, by have := ha.2; omega⟩]
  have : semC .notin a (.tup bs) h = some (.bl (freshB bs a), h) := by simp only [semC, semIn, z, Option.map_some]; rfl
  rw [this]; exact Iff.rfl
def keyD : D → D
  | .tup (k :: _) => k
  | _ => .non
theorem Ed.key {k : Nat} {d : D} (h : Ed k d) : ∃ s r, d = .tup (.int s :: r) ∧ keyD d = .int s := by
  cases h with
  | mk s e ins hi hl => exact ⟨s, _, rfl, rfl⟩
theorem keys_sorts {ds : List D} (h : ∀ x ∈ ds, Ed 5 x) : SortsOk (ds.map keyD) := by
  have k : ∀ x ∈ ds.map keyD, ∃ s, x = D.int s := fun x hx => by
    obtain ⟨d, hd, rfl⟩ := List.mem_map.mp hx
    obtain ⟨s, r, _, e⟩ := (h d hd).key
    exact ⟨s, e⟩
  have kp : ∀ p ∈ (ds.map keyD).map D.py, ∃ s, p = PyData.int s := fun p hp => by
    obtain ⟨x, hx, rfl⟩ := List.mem_map.mp hp
    obtain ⟨s, rfl⟩ := k x hx
    exact ⟨s, rfl⟩
  refine ⟨pures_of fun x hx => ?_, fun d hd d' hd' => ?_, .inr fun d hd => ?_, fun x hx => ?_⟩
  · obtain ⟨s, rfl⟩ := k x hx; rfl
  · obtain ⟨s, rfl⟩ := kp d hd
    obtain ⟨s', rfl⟩ := kp d' hd'
    rfl
  · obtain ⟨s, rfl⟩ := kp d hd
    exact ⟨fun z => (nomatch z), fun xs z => (nomatch z)⟩
  · obtain ⟨s, rfl⟩ := k x hx; exact Nat.zero_le _
theorem keysL_of {F : D → Hd → Res D} {h : Hd} : ∀ {ds : List D}, (∀ d ∈ ds, F d h = .ok (keyD d) h) → keysL F ds h = .ok (ds.map keyD) h
  | [], _ => rfl
  | d :: ds, q => by
    unfold keysL
    rw [q d List.mem_cons_self, Res.bind_ok, keysL_of fun x hx => q x (List.mem_cons_of_mem _ hx)]
    rfl
noncomputable def sortE (ds : List D) : List D := sortB (ds.zip (ds.map keyD))
theorem sortR_v {F : D → Hd → Res D} {n : Nat} {h : Hd} {ds : List D} {P : D → Hd → Prop} (e : h[n]? = some (.lst ds)) (he : ∀ x ∈ ds, Ed 5 x) (hf : ∀ d ∈ ds, F d h = .ok (keyD d) h) (q : P (.ref h.length) (h ++ [.lst (sortE ds)])) : (sortR F (.ref n) h).sat P := by
  unfold sortR
  have e1 : lstOf h (.ref n) = some ds := by simp only [lstOf, e]
  rw [e1]
  dsimp only
  rw [keysL_of hf]
  have e2 : noEx (Res.ok (ds.map keyD) h) = .ok (ds.map keyD) h := rfl
  rw [e2, Res.bind_ok, if_pos (keys_sorts he)]
  exact q
theorem tT2_1 : tT2 1 = fF1 := rfl
theorem tup_tr {ds : List D} {h : Hd} {T : Bool → Hd → Prop} : trD T (.tup ds) h ↔ T (!ds.isEmpty) h := Iff.rfl
/-- what is merged -/
noncomputable def mrg (o t : List D) : List D := sortE (o ++ t.filter (freshB o))
theorem fr_ed {o t : List D} (ho : ∀ x ∈ o, Ed 5 x) (ht : ∀ x ∈ t, Ed 5 x) : ∀ x ∈ o ++ t.filter (freshB o), Ed 5 x := fun x hx => by
  rcases List.mem_append.mp hx with z | z
  · exact ho x z
  · exact ht x (List.mem_filter.mp z).1
theorem merged_sat {o t : List D} {h : Hd} (ho : ∀ x ∈ o, Ed 5 x) (ht : ∀ x ∈ t, Ed 5 x) (lo : o.length ≤ 10) (lt : t.length ≤ 10) : (fF2 [.tup o, .tup t] h).sat fun d h' => d = (if (prs o t).isEmpty = true then .tup (mrg o t) else .non) ∧ ∃ k, h' = h ++ k := by
  have po : D.pures o = true := pures_of fun x hx => (ho x hx).ok.1
  refine runP_v (σ := [some (.tup o), some (.tup t), none, none]) (by rfl) (by rfl) ?_
  unfold bB2
  simp (maxSteps := 2000000) (disch := decide) only [↓ss_nil, ↓ss_cons, ↓FL.then_nx, ↓FL.then_rt, ↓FL.then_bk, ↓FL.then_ct, ↓retW_nx, ↓retW_rt, ↓s_expr, ↓s_ret, ↓s_retN, ↓s_set, ↓s_setc, ↓s_setix, ↓s_iff, ↓s_for, ↓s_brk, ↓s_cont, ↓s_pass, ↓v_var, ↓varD_some, ↓v_int, ↓v_str, ↓v_bl, ↓v_non, ↓v_op2, ↓v_cmp, ↓v_neg, ↓v_nt, ↓v_and, ↓v_or, ↓and1, ↓or1, ↓and2, ↓or2, ↓andT1, ↓orT1, ↓andT2, ↓orT2, ↓v_ife, ↓l_nil, ↓l_cons, ↓v_tup, ↓v_lst, ↓v_ix, ↓o_no, ↓o_yes, ↓inD1_int, ↓v_sl, ↓v_bc, ↓v_isi, ↓v_call, ↓v_app, ↓v_comp, ↓v_sortk, ↓v_sortl, ↓t_cmp, ↓t_nt, ↓t_and, ↓t_or, ↓t_var, ↓t_bl, ↓t_isi, ↓t_call, ↓blD_bl, ↓trD_bl, ↓itD_some, ↓i_seq, ↓i_enum, ↓i_rng1, ↓vO_some, ↓add_ii, ↓sub_ii, ↓lt_ii, ↓le_ii, ↓gt_ii, ↓ge_ii, ↓eq_ii, ↓abs_i, ↓int_i, ↓max_ii, ↓min_ii, ↓neg_i, ↓setW_some, ↓mul_ii, ↓mod_ii, ↓pow_ii, ↓div_ii, ↓reduceIte, and_self, ↓len_tup, List.getElem?_cons_zero, List.getElem?_cons_succ, List.set_cons_zero, List.set_cons_succ, tT2_1]
  refine clashes_v ho ht lo lt ?_
  simp (maxSteps := 2000000) (disch := decide) only [↓ss_nil, ↓ss_cons, ↓FL.then_nx, ↓FL.then_rt, ↓FL.then_bk, ↓FL.then_ct, ↓retW_nx, ↓retW_rt, ↓s_expr, ↓s_ret, ↓s_retN, ↓s_set, ↓s_setc, ↓s_setix, ↓s_iff, ↓s_for, ↓s_brk, ↓s_cont, ↓s_pass, ↓v_var, ↓varD_some, ↓v_int, ↓v_str, ↓v_bl, ↓v_non, ↓v_op2, ↓v_cmp, ↓v_neg, ↓v_nt, ↓v_and, ↓v_or, ↓and1, ↓or1, ↓and2, ↓or2, ↓andT1, ↓orT1, ↓andT2, ↓orT2, ↓v_ife, ↓l_nil, ↓l_cons, ↓v_tup, ↓v_lst, ↓v_ix, ↓o_no, ↓o_yes, ↓inD1_int, ↓v_sl, ↓v_bc, ↓v_isi, ↓v_call, ↓v_app, ↓v_comp, ↓v_sortk, ↓v_sortl, ↓t_cmp, ↓t_nt, ↓t_and, ↓t_or, ↓t_var, ↓t_bl, ↓t_isi, ↓t_call, ↓blD_bl, ↓trD_bl, ↓itD_some, ↓i_seq, ↓i_enum, ↓i_rng1, ↓vO_some, ↓add_ii, ↓sub_ii, ↓lt_ii, ↓le_ii, ↓gt_ii, ↓ge_ii, ↓eq_ii, ↓abs_i, ↓int_i, ↓max_ii, ↓min_ii, ↓neg_i, ↓setW_some, ↓mul_ii, ↓mod_ii, ↓pow_ii, ↓div_ii, ↓reduceIte, and_self, ↓len_tup, List.getElem?_cons_zero, List.getElem?_cons_succ, List.set_cons_zero, List.set_cons_succ, ↓tup_tr, ↓itSeq_tup]
  cases hp : (prs o t).isEmpty with
  | false =>
    simp only [Bool.not_false, if_true]
    exact ⟨rfl, _, rfl⟩
  | true =>
    simp only [Bool.not_true, Bool.false_eq_true, if_false]
    have nl : prs o t = [] := List.isEmpty_iff.mp hp
    refine vCo_yes (fun i acc h' => h' = h ++ [.lst (prs o t)] ∧ acc = (t.take i).filter (freshB o)) ⟨rfl, rfl⟩ (fun _ _ _ _ _ _ z => nomatch z) (fun i acc h' d hd ⟨eh, ea⟩ => ?_) fun acc h' ⟨eh, ea⟩ => ?_
    · subst eh ea
      have hd : t[i]? = some d := hd
      refine ⟨_, rfl, ?_⟩
      have dd := (ht d (List.mem_of_getElem? hd)).ok
      simp (maxSteps := 2000000) (disch := decide) only [↓ss_nil, ↓ss_cons, ↓FL.then_nx, ↓FL.then_rt, ↓FL.then_bk, ↓FL.then_ct, ↓retW_nx, ↓retW_rt, ↓s_expr, ↓s_ret, ↓s_retN, ↓s_set, ↓s_setc, ↓s_setix, ↓s_iff, ↓s_for, ↓s_brk, ↓s_cont, ↓s_pass, ↓v_var, ↓varD_some, ↓v_int, ↓v_str, ↓v_bl, ↓v_non, ↓v_op2, ↓v_cmp, ↓v_neg, ↓v_nt, ↓v_and, ↓v_or, ↓and1, ↓or1, ↓and2, ↓or2, ↓andT1, ↓orT1, ↓andT2, ↓orT2, ↓v_ife, ↓l_nil, ↓l_cons, ↓v_tup, ↓v_lst, ↓v_ix, ↓o_no, ↓o_yes, ↓inD1_int, ↓v_sl, ↓v_bc, ↓v_isi, ↓v_call, ↓v_app, ↓v_comp, ↓v_sortk, ↓v_sortl, ↓t_cmp, ↓t_nt, ↓t_and, ↓t_or, ↓t_var, ↓t_bl, ↓t_isi, ↓t_call, ↓blD_bl, ↓trD_bl, ↓itD_some, ↓i_seq, ↓i_enum, ↓i_rng1, ↓vO_some, ↓add_ii, ↓sub_ii, ↓lt_ii, ↓le_ii, ↓gt_ii, ↓ge_ii, ↓eq_ii, ↓abs_i, ↓int_i, ↓max_ii, ↓min_ii, ↓neg_i, ↓setW_some, ↓mul_ii, ↓mod_ii, ↓pow_ii, ↓div_ii, ↓reduceIte, and_self, ↓len_tup, List.getElem?_cons_zero, List.getElem?_cons_succ, List.set_cons_zero, List.set_cons_succ, wipeD, ↓notin_v dd po]
      have et : t.take (i + 1) = t.take i ++ [d] := by rw [List.take_add_one, hd]; rfl
      split
      · rename_i c
        exact ⟨trivial, by rw [et, List.filter_append, List.filter_cons_of_pos (by exact c)]; rfl⟩
      · rename_i c
        exact ⟨trivial, by rw [et, List.filter_append, List.filter_cons_of_neg (by exact c)]; simp⟩
    · subst eh ea
      have eF : List.filter (freshB o) (List.take t.length t) = t.filter (freshB o) := by rw [List.take_length]
      rw [eF]
      refine ⟨len_le (a := (t.filter (freshB o)).length) (Nat.le_trans (List.length_filter_le _ _) (by omega)) rfl, ?_⟩
      simp (maxSteps := 2000000) (disch := decide) only [↓ss_nil, ↓ss_cons, ↓FL.then_nx, ↓FL.then_rt, ↓FL.then_bk, ↓FL.then_ct, ↓retW_nx, ↓retW_rt, ↓s_expr, ↓s_ret, ↓s_retN, ↓s_set, ↓s_setc, ↓s_setix, ↓s_iff, ↓s_for, ↓s_brk, ↓s_cont, ↓s_pass, ↓v_var, ↓varD_some, ↓v_int, ↓v_str, ↓v_bl, ↓v_non, ↓v_op2, ↓v_cmp, ↓v_neg, ↓v_nt, ↓v_and, ↓v_or, ↓and1, ↓or1, ↓and2, ↓or2, ↓andT1, ↓orT1, ↓andT2, ↓orT2, ↓v_ife, ↓l_nil, ↓l_cons, ↓v_tup, ↓v_lst, ↓v_ix, ↓o_no, ↓o_yes, ↓inD1_int, ↓v_sl, ↓v_bc, ↓v_isi, ↓v_call, ↓v_app, ↓v_comp, ↓v_sortk, ↓v_sortl, ↓t_cmp, ↓t_nt, ↓t_and, ↓t_or, ↓t_var, ↓t_bl, ↓t_isi, ↓t_call, ↓blD_bl, ↓trD_bl, ↓itD_some, ↓i_seq, ↓i_enum, ↓i_rng1, ↓vO_some, ↓add_ii, ↓sub_ii, ↓lt_ii, ↓le_ii, ↓gt_ii, ↓ge_ii, ↓eq_ii, ↓abs_i, ↓int_i, ↓max_ii, ↓min_ii, ↓neg_i, ↓setW_some, ↓mul_ii, ↓mod_ii, ↓pow_ii, ↓div_ii, ↓reduceIte, and_self, ↓len_tup, List.getElem?_cons_zero, List.getElem?_cons_succ, List.set_cons_zero, List.set_cons_succ, ↓list_v (d := .tup o) (ds := o) rfl]
      refine (add_ll app_new (app_at app_new) (by have := List.length_filter_le (freshB o) t; omega)).mpr ?_
      refine sortR_v app_new (fr_ed ho ht) (fun d hd => ?_) ?_
      · obtain ⟨s, r, rfl, ek⟩ := (fr_ed ho ht d hd).key
        rw [ek]
        have ix0 : ∀ k : Hd, semIx (.tup (.int s :: r)) (.int 0) k = some (.int s, k) := fun k => by simp only [semIx, seqOf, atI_0, Option.map_some]
        simp only [evP, mkV, List.getElem?_cons_zero, Res.bind_ok, ix0, ofO_some]
      · refine (tuple_v (seqOf_ref app_new)).mpr ?_
        try simp (maxSteps := 2000000) (disch := decide) only [↓ss_nil, ↓ss_cons, ↓FL.then_nx, ↓FL.then_rt, ↓FL.then_bk, ↓FL.then_ct, ↓retW_nx, ↓retW_rt, ↓s_expr, ↓s_ret, ↓s_retN, ↓s_set, ↓s_setc, ↓s_setix, ↓s_iff, ↓s_for, ↓s_brk, ↓s_cont, ↓s_pass, ↓v_var, ↓varD_some, ↓v_int, ↓v_str, ↓v_bl, ↓v_non, ↓v_op2, ↓v_cmp, ↓v_neg, ↓v_nt, ↓v_and, ↓v_or, ↓and1, ↓or1, ↓and2, ↓or2, ↓andT1, ↓orT1, ↓andT2, ↓orT2, ↓v_ife, ↓l_nil, ↓l_cons, ↓v_tup, ↓v_lst, ↓v_ix, ↓o_no, ↓o_yes, ↓inD1_int, ↓v_sl, ↓v_bc, ↓v_isi, ↓v_call, ↓v_app, ↓v_comp, ↓v_sortk, ↓v_sortl, ↓t_cmp, ↓t_nt, ↓t_and, ↓t_or, ↓t_var, ↓t_bl, ↓t_isi, ↓t_call, ↓blD_bl, ↓trD_bl, ↓itD_some, ↓i_seq, ↓i_enum, ↓i_rng1, ↓vO_some, ↓add_ii, ↓sub_ii, ↓lt_ii, ↓le_ii, ↓gt_ii, ↓ge_ii, ↓eq_ii, ↓abs_i, ↓int_i, ↓max_ii, ↓min_ii, ↓neg_i, ↓setW_some, ↓mul_ii, ↓mod_ii, ↓pow_ii, ↓div_ii, ↓reduceIte, and_self, ↓len_tup, List.getElem?_cons_zero, List.getElem?_cons_succ, List.set_cons_zero, List.set_cons_succ]
        exact ⟨rfl, _, by simp only [List.append_assoc]; rfl⟩
theorem rng_get {n i : Nat} {x : D} (e : ((List.range n).map fun (i : Nat) => D.int (i : Int))[i]? = some x) : i < n ∧ x = D.int (i : Int) := by
  have hi : i < n := by
    have := (List.getElem?_eq_some_iff.mp e).1
    simpa using this
  rw [List.getElem?_map, List.getElem?_range hi] at e
  cases e
  exact ⟨hi, rfl⟩
theorem tT13_10 : tT13 10 = fF10 := rfl
theorem prio_v {d : D} {h : Hd} (hd : Ed 5 d) : fF10 [d] h = .ok (keyD d) h := by
  obtain ⟨s, r, rfl, ek⟩ := hd.key
  have ix0 : ∀ k : Hd, semIx (.tup (.int s :: r)) (.int 0) k = some (.int s, k) := fun k => by simp only [semIx, seqOf, atI_0, Option.map_some]
  rw [ek]
  unfold fF10 runP
  rw [if_pos (show [D.tup (.int s :: r)].length = 1 from rfl)]
  unfold runB bB10
  simp only [evSs, evS, evP, mkV, startD, List.map_cons, List.map_nil, List.length_cons, List.length_nil, List.cons_append, List.nil_append, List.getElem?_cons_zero, Res.bind_ok, ix0, ofO_some, Res.st_ok, RS.seq_rt]
def dueD (o t : List D) (m : List D) : D := if (prs o t).isEmpty = true then .tup [.tup [], .tup m] else .tup [.tup (prs o t), .non]
theorem due_sat {o t : List D} {h : Hd} (ho : ∀ x ∈ o, Ed 5 x) (ht : ∀ x ∈ t, Ed 5 x) (lo : o.length ≤ 10) (lt : t.length ≤ 10) : (fF13 [.tup o, .tup t] h).sat fun d h' => d = dueD o t (mrg o t) ∧ ∃ k, h' = h ++ k := by
  have po : D.pures o = true := pures_of fun x hx => (ho x hx).ok.1
  unfold fF13
  refine runP_v (σ := [some (.tup o), some (.tup t), none, none, none, none, none, none]) (by rfl) (by rfl) ?_
  unfold bB13
  refine ss_mid (fun τ' h' => τ' = [some (.tup o), some (.tup t), some (.ref h.length), none, none, none, none, none] ∧ h' = h ++ [.lst []]) ?_ ?_
  · simp (maxSteps := 2000000) (disch := decide) only [↓ss_nil, ↓ss_cons, ↓FL.then_nx, ↓FL.then_rt, ↓FL.then_bk, ↓FL.then_ct, ↓retW_nx, ↓retW_rt, ↓s_expr, ↓s_ret, ↓s_retN, ↓s_set, ↓s_setc, ↓s_setix, ↓s_iff, ↓s_for, ↓s_brk, ↓s_cont, ↓s_pass, ↓v_var, ↓varD_some, ↓v_int, ↓v_str, ↓v_bl, ↓v_non, ↓v_op2, ↓v_cmp, ↓v_neg, ↓v_nt, ↓v_and, ↓v_or, ↓and1, ↓or1, ↓and2, ↓or2, ↓andT1, ↓orT1, ↓andT2, ↓orT2, ↓v_ife, ↓l_nil, ↓l_cons, ↓v_tup, ↓v_lst, ↓v_ix, ↓o_no, ↓o_yes, ↓inD1_int, ↓v_sl, ↓v_bc, ↓v_isi, ↓v_call, ↓v_app, ↓v_comp, ↓v_sortk, ↓v_sortl, ↓t_cmp, ↓t_nt, ↓t_and, ↓t_or, ↓t_var, ↓t_bl, ↓t_isi, ↓t_call, ↓blD_bl, ↓trD_bl, ↓itD_some, ↓i_seq, ↓i_enum, ↓i_rng1, ↓vO_some, ↓add_ii, ↓sub_ii, ↓lt_ii, ↓le_ii, ↓gt_ii, ↓ge_ii, ↓eq_ii, ↓abs_i, ↓int_i, ↓max_ii, ↓min_ii, ↓neg_i, ↓setW_some, ↓mul_ii, ↓mod_ii, ↓pow_ii, ↓div_ii, ↓reduceIte, and_self, ↓len_tup, List.getElem?_cons_zero, List.getElem?_cons_succ, List.set_cons_zero, List.set_cons_succ]
    exact ⟨Nat.zero_le _, trivial⟩
  rintro τ1 h1 ⟨rfl, rfl⟩
  refine ss_mid (fun τ' h' => h' = h ++ [.lst (prs o t)] ∧ ∃ (a b c d e : Option D), τ' = [some (.tup o), some (.tup t), some (.ref h.length), a, b, c, d, e]) ?_ ?_
  · simp (maxSteps := 2000000) (disch := decide) only [↓ss_nil, ↓ss_cons, ↓FL.then_nx, ↓FL.then_rt, ↓FL.then_bk, ↓FL.then_ct, ↓retW_nx, ↓retW_rt, ↓s_expr, ↓s_ret, ↓s_retN, ↓s_set, ↓s_setc, ↓s_setix, ↓s_iff, ↓s_for, ↓s_brk, ↓s_cont, ↓s_pass, ↓v_var, ↓varD_some, ↓v_int, ↓v_str, ↓v_bl, ↓v_non, ↓v_op2, ↓v_cmp, ↓v_neg, ↓v_nt, ↓v_and, ↓v_or, ↓and1, ↓or1, ↓and2, ↓or2, ↓andT1, ↓orT1, ↓andT2, ↓orT2, ↓v_ife, ↓l_nil, ↓l_cons, ↓v_tup, ↓v_lst, ↓v_ix, ↓o_no, ↓o_yes, ↓inD1_int, ↓v_sl, ↓v_bc, ↓v_isi, ↓v_call, ↓v_app, ↓v_comp, ↓v_sortk, ↓v_sortl, ↓t_cmp, ↓t_nt, ↓t_and, ↓t_or, ↓t_var, ↓t_bl, ↓t_isi, ↓t_call, ↓blD_bl, ↓trD_bl, ↓itD_some, ↓i_seq, ↓i_enum, ↓i_rng1, ↓vO_some, ↓add_ii, ↓sub_ii, ↓lt_ii, ↓le_ii, ↓gt_ii, ↓ge_ii, ↓eq_ii, ↓abs_i, ↓int_i, ↓max_ii, ↓min_ii, ↓neg_i, ↓setW_some, ↓mul_ii, ↓mod_ii, ↓pow_ii, ↓div_ii, ↓reduceIte, and_self, ↓len_tup, List.getElem?_cons_zero, List.getElem?_cons_succ, List.set_cons_zero, List.set_cons_succ]
    refine rngD_nat (by omega) ?_
    refine for_sat (fun i τ' h' => h' = h ++ [.lst (rows o t i)] ∧ ∃ (a b c d e : Option D), τ' = [some (.tup o), some (.tup t), some (.ref h.length), a, b, c, d, e]) ⟨rfl, _, _, _, _, _, rfl⟩ (fun _ _ _ _ _ _ z => nomatch z) (fun i τ' h' x hx ⟨eh, a, b, c, d, e, eτ⟩ => ?_) fun τ' h' ⟨eh, a, b, c, d, e, eτ⟩ => ?_
    · subst eh eτ
      obtain ⟨hi, rfl⟩ := rng_get hx
      have e1 := List.getElem?_eq_getElem hi
      refine ⟨_, rfl, ?_⟩
      simp (maxSteps := 2000000) (disch := decide) only [↓ss_nil, ↓ss_cons, ↓FL.then_nx, ↓FL.then_rt, ↓FL.then_bk, ↓FL.then_ct, ↓retW_nx, ↓retW_rt, ↓s_expr, ↓s_ret, ↓s_retN, ↓s_set, ↓s_setc, ↓s_setix, ↓s_iff, ↓s_for, ↓s_brk, ↓s_cont, ↓s_pass, ↓v_var, ↓varD_some, ↓v_int, ↓v_str, ↓v_bl, ↓v_non, ↓v_op2, ↓v_cmp, ↓v_neg, ↓v_nt, ↓v_and, ↓v_or, ↓and1, ↓or1, ↓and2, ↓or2, ↓andT1, ↓orT1, ↓andT2, ↓orT2, ↓v_ife, ↓l_nil, ↓l_cons, ↓v_tup, ↓v_lst, ↓v_ix, ↓o_no, ↓o_yes, ↓inD1_int, ↓v_sl, ↓v_bc, ↓v_isi, ↓v_call, ↓v_app, ↓v_comp, ↓v_sortk, ↓v_sortl, ↓t_cmp, ↓t_nt, ↓t_and, ↓t_or, ↓t_var, ↓t_bl, ↓t_isi, ↓t_call, ↓blD_bl, ↓trD_bl, ↓itD_some, ↓i_seq, ↓i_enum, ↓i_rng1, ↓vO_some, ↓add_ii, ↓sub_ii, ↓lt_ii, ↓le_ii, ↓gt_ii, ↓ge_ii, ↓eq_ii, ↓abs_i, ↓int_i, ↓max_ii, ↓min_ii, ↓neg_i, ↓setW_some, ↓mul_ii, ↓mod_ii, ↓pow_ii, ↓div_ii, ↓reduceIte, and_self, ↓len_tup, List.getElem?_cons_zero, List.getElem?_cons_succ, List.set_cons_zero, List.set_cons_succ]
      refine rngD_nat (by omega) ?_
      refine for_sat (fun j τ' h' => h' = h ++ [.lst (rows o t i ++ row o t i j)] ∧ ∃ (b c d e : Option D), τ' = [some (.tup o), some (.tup t), some (.ref h.length), some (.int (i : Int)), b, c, d, e]) ⟨by unfold row; simp, _, _, _, _, rfl⟩ (fun _ _ _ _ _ _ z => nomatch z) (fun j τ' h' y hy ⟨eh, b, c, d, e, eτ⟩ => ?_) fun τ' h' ⟨eh, b, c, d, e, eτ⟩ => ?_
      · subst eh eτ
        obtain ⟨hj, rfl⟩ := rng_get hy
        have e2 := List.getElem?_eq_getElem hj
        refine ⟨_, rfl, ?_⟩
        have da := (ho _ (List.mem_of_getElem? e1)).ok
        have db := (ht _ (List.mem_of_getElem? e2)).ok
        have bound : (rows o t i ++ row o t i j).length ≤ 100000 := by
          have h1 := rows_len (o := o) (t := t) (n := i)
          have h2 := row_len (o := o) (t := t) (i := i) (n := j)
          have h3 : i * t.length ≤ 10 * 10 := Nat.mul_le_mul (by omega) (by omega)
          rw [List.length_append]; omega
        have ec := cell_of e1 e2
        have ha := ho _ (List.mem_of_getElem? e1)
        have hb := ht _ (List.mem_of_getElem? e2)
        revert e1 e2 da db ec ha hb
        generalize o[i] = a
        generalize t[j] = b2
        intro e1 e2 da db ec ha hb
        cases ha with
        | mk s en ins hi' hl' =>
          cases hb with
          | mk s' en' ins' hi2 hl2 =>
            simp (maxSteps := 2000000) (disch := decide) only [↓ss_nil, ↓ss_cons, ↓FL.then_nx, ↓FL.then_rt, ↓FL.then_bk, ↓FL.then_ct, ↓retW_nx, ↓retW_rt, ↓s_expr, ↓s_ret, ↓s_retN, ↓s_set, ↓s_setc, ↓s_setix, ↓s_iff, ↓s_for, ↓s_brk, ↓s_cont, ↓s_pass, ↓v_var, ↓varD_some, ↓v_int, ↓v_str, ↓v_bl, ↓v_non, ↓v_op2, ↓v_cmp, ↓v_neg, ↓v_nt, ↓v_and, ↓v_or, ↓and1, ↓or1, ↓and2, ↓or2, ↓andT1, ↓orT1, ↓andT2, ↓orT2, ↓v_ife, ↓l_nil, ↓l_cons, ↓v_tup, ↓v_lst, ↓v_ix, ↓o_no, ↓o_yes, ↓inD1_int, ↓v_sl, ↓v_bc, ↓v_isi, ↓v_call, ↓v_app, ↓v_comp, ↓v_sortk, ↓v_sortl, ↓t_cmp, ↓t_nt, ↓t_and, ↓t_or, ↓t_var, ↓t_bl, ↓t_isi, ↓t_call, ↓blD_bl, ↓trD_bl, ↓itD_some, ↓i_seq, ↓i_enum, ↓i_rng1, ↓vO_some, ↓add_ii, ↓sub_ii, ↓lt_ii, ↓le_ii, ↓gt_ii, ↓ge_ii, ↓eq_ii, ↓abs_i, ↓int_i, ↓max_ii, ↓min_ii, ↓neg_i, ↓setW_some, ↓mul_ii, ↓mod_ii, ↓pow_ii, ↓div_ii, ↓reduceIte, and_self, ↓len_tup, List.getElem?_cons_zero, List.getElem?_cons_succ, List.set_cons_zero, List.set_cons_succ, ↓ix_tup (atI_nat e1), ↓ix_tup (atI_nat e2), ↓ix_tup atI_0, ↓ix_tup atI_1, ↓ne_v da db]
            have clE : clB (.tup [.int s, .int en, .tup ins]) (.tup [.int s', .int en', .tup ins']) = (decide (s ≤ en') && (decide (s' ≤ en) && !(PyData.eqv (D.py (.tup [.int s, .int en, .tup ins])) (D.py (.tup [.int s', .int en', .tup ins']))))) := rfl
            rw [row_succ, ec, clE]
            by_cases c1 : s ≤ en'
            · rw [if_pos (decide_eq_true c1), decide_eq_true c1, Bool.true_and]
              by_cases c2 : s' ≤ en
              · rw [if_pos (decide_eq_true c2), decide_eq_true c2, Bool.true_and]
                split
                · rename_i c3
                  refine ⟨by simp only [isLst, app_new], len_le (a := 2) (by decide) rfl, ?_⟩
                  refine (app_sat app_new bound ?_).2
                  rw [set_last]
                  exact ⟨by simp, _, _, _, _, rfl⟩
                · rename_i c3
                  exact ⟨by simp, _, _, _, _, rfl⟩
              · rw [if_neg (by simp [c2]), decide_eq_false c2, Bool.false_and]
                simp only [Bool.false_eq_true, if_false]
                exact ⟨by simp, _, _, _, _, rfl⟩
            · rw [if_neg (by simp [c1]), decide_eq_false c1, Bool.false_and]
              simp only [Bool.false_eq_true, if_false]
              exact ⟨by simp, _, _, _, _, rfl⟩
      · subst eh eτ
        rw [rng_len]
        exact ⟨by rw [rows_succ], _, _, _, _, _, rfl⟩
    · subst eh eτ
      rw [rng_len]
      exact ⟨rfl, _, _, _, _, _, rfl⟩
  rintro τ2 h2 ⟨rfl, a, b, c, d, e, rfl⟩
  simp (maxSteps := 2000000) (disch := decide) only [↓ss_nil, ↓ss_cons, ↓FL.then_nx, ↓FL.then_rt, ↓FL.then_bk, ↓FL.then_ct, ↓retW_nx, ↓retW_rt, ↓s_expr, ↓s_ret, ↓s_retN, ↓s_set, ↓s_setc, ↓s_setix, ↓s_iff, ↓s_for, ↓s_brk, ↓s_cont, ↓s_pass, ↓v_var, ↓varD_some, ↓v_int, ↓v_str, ↓v_bl, ↓v_non, ↓v_op2, ↓v_cmp, ↓v_neg, ↓v_nt, ↓v_and, ↓v_or, ↓and1, ↓or1, ↓and2, ↓or2, ↓andT1, ↓orT1, ↓andT2, ↓orT2, ↓v_ife, ↓l_nil, ↓l_cons, ↓v_tup, ↓v_lst, ↓v_ix, ↓o_no, ↓o_yes, ↓inD1_int, ↓v_sl, ↓v_bc, ↓v_isi, ↓v_call, ↓v_app, ↓v_comp, ↓v_sortk, ↓v_sortl, ↓t_cmp, ↓t_nt, ↓t_and, ↓t_or, ↓t_var, ↓t_bl, ↓t_isi, ↓t_call, ↓blD_bl, ↓trD_bl, ↓itD_some, ↓i_seq, ↓i_enum, ↓i_rng1, ↓vO_some, ↓add_ii, ↓sub_ii, ↓lt_ii, ↓le_ii, ↓gt_ii, ↓ge_ii, ↓eq_ii, ↓abs_i, ↓int_i, ↓max_ii, ↓min_ii, ↓neg_i, ↓setW_some, ↓mul_ii, ↓mod_ii, ↓pow_ii, ↓div_ii, ↓reduceIte, and_self, ↓len_tup, List.getElem?_cons_zero, List.getElem?_cons_succ, List.set_cons_zero, List.set_cons_succ, tT13_10, ↓len_ref app_new, ↓itSeq_tup]
  by_cases hp : prs o t = []
  · rw [hp]
    simp only [List.length_nil]
    rw [if_neg (by decide)]
    refine vCo_yes (fun i acc h' => h' = h ++ [.lst []] ∧ acc = (t.take i).filter (freshB o)) ⟨rfl, rfl⟩ (fun _ _ _ _ _ _ z => nomatch z) (fun i acc h' d hd ⟨eh, ea⟩ => ?_) fun acc h' ⟨eh, ea⟩ => ?_
    · subst eh ea
      have hd : t[i]? = some d := hd
      refine ⟨_, rfl, ?_⟩
      have dd := (ht d (List.mem_of_getElem? hd)).ok
      simp (maxSteps := 2000000) (disch := decide) only [↓ss_nil, ↓ss_cons, ↓FL.then_nx, ↓FL.then_rt, ↓FL.then_bk, ↓FL.then_ct, ↓retW_nx, ↓retW_rt, ↓s_expr, ↓s_ret, ↓s_retN, ↓s_set, ↓s_setc, ↓s_setix, ↓s_iff, ↓s_for, ↓s_brk, ↓s_cont, ↓s_pass, ↓v_var, ↓varD_some, ↓v_int, ↓v_str, ↓v_bl, ↓v_non, ↓v_op2, ↓v_cmp, ↓v_neg, ↓v_nt, ↓v_and, ↓v_or, ↓and1, ↓or1, ↓and2, ↓or2, ↓andT1, ↓orT1, ↓andT2, ↓orT2, ↓v_ife, ↓l_nil, ↓l_cons, ↓v_tup, ↓v_lst, ↓v_ix, ↓o_no, ↓o_yes, ↓inD1_int, ↓v_sl, ↓v_bc, ↓v_isi, ↓v_call, ↓v_app, ↓v_comp, ↓v_sortk, ↓v_sortl, ↓t_cmp, ↓t_nt, ↓t_and, ↓t_or, ↓t_var, ↓t_bl, ↓t_isi, ↓t_call, ↓blD_bl, ↓trD_bl, ↓itD_some, ↓i_seq, ↓i_enum, ↓i_rng1, ↓vO_some, ↓add_ii, ↓sub_ii, ↓lt_ii, ↓le_ii, ↓gt_ii, ↓ge_ii, ↓eq_ii, ↓abs_i, ↓int_i, ↓max_ii, ↓min_ii, ↓neg_i, ↓setW_some, ↓mul_ii, ↓mod_ii, ↓pow_ii, ↓div_ii, ↓reduceIte, and_self, ↓len_tup, List.getElem?_cons_zero, List.getElem?_cons_succ, List.set_cons_zero, List.set_cons_succ, wipeD, ↓notin_v dd po]
      have et : t.take (i + 1) = t.take i ++ [d] := by rw [List.take_add_one, hd]; rfl
      split
      · rename_i c
        exact ⟨trivial, by rw [et, List.filter_append, List.filter_cons_of_pos (by exact c)]; rfl⟩
      · rename_i c
        exact ⟨trivial, by rw [et, List.filter_append, List.filter_cons_of_neg (by exact c)]; simp⟩
    · subst eh ea
      have eF : List.filter (freshB o) (List.take t.length t) = t.filter (freshB o) := by rw [List.take_length]
      rw [eF]
      refine ⟨len_le (a := (t.filter (freshB o)).length) (Nat.le_trans (List.length_filter_le _ _) (by omega)) rfl, ?_⟩
      simp (maxSteps := 2000000) (disch := decide) only [↓ss_nil, ↓ss_cons, ↓FL.then_nx, ↓FL.then_rt, ↓FL.then_bk, ↓FL.then_ct, ↓retW_nx, ↓retW_rt, ↓s_expr, ↓s_ret, ↓s_retN, ↓s_set, ↓s_setc, ↓s_setix, ↓s_iff, ↓s_for, ↓s_brk, ↓s_cont, ↓s_pass, ↓v_var, ↓varD_some, ↓v_int, ↓v_str, ↓v_bl, ↓v_non, ↓v_op2, ↓v_cmp, ↓v_neg, ↓v_nt, ↓v_and, ↓v_or, ↓and1, ↓or1, ↓and2, ↓or2, ↓andT1, ↓orT1, ↓andT2, ↓orT2, ↓v_ife, ↓l_nil, ↓l_cons, ↓v_tup, ↓v_lst, ↓v_ix, ↓o_no, ↓o_yes, ↓inD1_int, ↓v_sl, ↓v_bc, ↓v_isi, ↓v_call, ↓v_app, ↓v_comp, ↓v_sortk, ↓v_sortl, ↓t_cmp, ↓t_nt, ↓t_and, ↓t_or, ↓t_var, ↓t_bl, ↓t_isi, ↓t_call, ↓blD_bl, ↓trD_bl, ↓itD_some, ↓i_seq, ↓i_enum, ↓i_rng1, ↓vO_some, ↓add_ii, ↓sub_ii, ↓lt_ii, ↓le_ii, ↓gt_ii, ↓ge_ii, ↓eq_ii, ↓abs_i, ↓int_i, ↓max_ii, ↓min_ii, ↓neg_i, ↓setW_some, ↓mul_ii, ↓mod_ii, ↓pow_ii, ↓div_ii, ↓reduceIte, and_self, ↓len_tup, List.getElem?_cons_zero, List.getElem?_cons_succ, List.set_cons_zero, List.set_cons_succ, tT13_10, ↓list_v (d := .tup o) (ds := o) rfl]
      refine ⟨Nat.zero_le _, ?_⟩
      refine (add_ll app_new (app_at app_new) (by have := List.length_filter_le (freshB o) t; omega)).mpr ?_
      refine sortR_v app_new (fr_ed ho ht) (fun d hd => prio_v (fr_ed ho ht d hd)) ?_
      refine (tuple_v (seqOf_ref app_new)).mpr ?_
      try simp (maxSteps := 2000000) (disch := decide) only [↓ss_nil, ↓ss_cons, ↓FL.then_nx, ↓FL.then_rt, ↓FL.then_bk, ↓FL.then_ct, ↓retW_nx, ↓retW_rt, ↓s_expr, ↓s_ret, ↓s_retN, ↓s_set, ↓s_setc, ↓s_setix, ↓s_iff, ↓s_for, ↓s_brk, ↓s_cont, ↓s_pass, ↓v_var, ↓varD_some, ↓v_int, ↓v_str, ↓v_bl, ↓v_non, ↓v_op2, ↓v_cmp, ↓v_neg, ↓v_nt, ↓v_and, ↓v_or, ↓and1, ↓or1, ↓and2, ↓or2, ↓andT1, ↓orT1, ↓andT2, ↓orT2, ↓v_ife, ↓l_nil, ↓l_cons, ↓v_tup, ↓v_lst, ↓v_ix, ↓o_no, ↓o_yes, ↓inD1_int, ↓v_sl, ↓v_bc, ↓v_isi, ↓v_call, ↓v_app, ↓v_comp, ↓v_sortk, ↓v_sortl, ↓t_cmp, ↓t_nt, ↓t_and, ↓t_or, ↓t_var, ↓t_bl, ↓t_isi, ↓t_call, ↓blD_bl, ↓trD_bl, ↓itD_some, ↓i_seq, ↓i_enum, ↓i_rng1, ↓vO_some, ↓add_ii, ↓sub_ii, ↓lt_ii, ↓le_ii, ↓gt_ii, ↓ge_ii, ↓eq_ii, ↓abs_i, ↓int_i, ↓max_ii, ↓min_ii, ↓neg_i, ↓setW_some, ↓mul_ii, ↓mod_ii, ↓pow_ii, ↓div_ii, ↓reduceIte, and_self, ↓len_tup, List.getElem?_cons_zero, List.getElem?_cons_succ, List.set_cons_zero, List.set_cons_succ]
      refine ⟨len_le (a := 2) (by decide) rfl, ?_, _, by simp only [List.append_assoc]; rfl⟩
      unfold dueD
      rw [hp]
      rfl
  · have hl : 0 < ((prs o t).length : Int) := by
      have : 0 < (prs o t).length := List.length_pos_iff.mpr hp
      omega
    rw [if_pos (decide_eq_true hl)]
    refine (tuple_v (seqOf_ref app_new)).mpr ?_
    try simp (maxSteps := 2000000) (disch := decide) only [↓ss_nil, ↓ss_cons, ↓FL.then_nx, ↓FL.then_rt, ↓FL.then_bk, ↓FL.then_ct, ↓retW_nx, ↓retW_rt, ↓s_expr, ↓s_ret, ↓s_retN, ↓s_set, ↓s_setc, ↓s_setix, ↓s_iff, ↓s_for, ↓s_brk, ↓s_cont, ↓s_pass, ↓v_var, ↓varD_some, ↓v_int, ↓v_str, ↓v_bl, ↓v_non, ↓v_op2, ↓v_cmp, ↓v_neg, ↓v_nt, ↓v_and, ↓v_or, ↓and1, ↓or1, ↓and2, ↓or2, ↓andT1, ↓orT1, ↓andT2, ↓orT2, ↓v_ife, ↓l_nil, ↓l_cons, ↓v_tup, ↓v_lst, ↓v_ix, ↓o_no, ↓o_yes, ↓inD1_int, ↓v_sl, ↓v_bc, ↓v_isi, ↓v_call, ↓v_app, ↓v_comp, ↓v_sortk, ↓v_sortl, ↓t_cmp, ↓t_nt, ↓t_and, ↓t_or, ↓t_var, ↓t_bl, ↓t_isi, ↓t_call, ↓blD_bl, ↓trD_bl, ↓itD_some, ↓i_seq, ↓i_enum, ↓i_rng1, ↓vO_some, ↓add_ii, ↓sub_ii, ↓lt_ii, ↓le_ii, ↓gt_ii, ↓ge_ii, ↓eq_ii, ↓abs_i, ↓int_i, ↓max_ii, ↓min_ii, ↓neg_i, ↓setW_some, ↓mul_ii, ↓mod_ii, ↓pow_ii, ↓div_ii, ↓reduceIte, and_self, ↓len_tup, List.getElem?_cons_zero, List.getElem?_cons_succ, List.set_cons_zero, List.set_cons_succ]
    refine ⟨len_le (a := 2) (by decide) rfl, ?_, _, rfl⟩
    unfold dueD
    rw [if_neg (by simpa using hp)]
end DL

set_option Elab.async false
set_option linter.all false
set_option maxRecDepth 100000
set_option maxHeartbeats 1000000
namespace DL
open PySem PySem.Spec PyProof.Rows L2
inductive Vd : Nat → D → Prop
  | non (n : Nat) : Vd n .non
  | int (n : Nat) (i : Int) : Vd n (.int i)
  | str (n : Nat) (x : Str) : Vd n (.str x)
  | tup (n : Nat) (ds : List D) (hl : ds.length ≤ 100000) (h : ∀ d ∈ ds, Vd n d) : Vd (n + 1) (.tup ds)
section
variable {h : Hd} {P : D → Hd → Prop} {t : Ty}
theorem isD_tup {ds : List D} : isD t P (.tup ds) h ↔ P (.bl (isT .tup t)) h := Iff.rfl
theorem isD_int {i : Int} : isD t P (.int i) h ↔ P (.bl (isT .int t)) h := Iff.rfl
theorem isD_str {x : Str} : isD t P (.str x) h ↔ P (.bl (isT .str t)) h := Iff.rfl
theorem isD_non : isD t P .non h ↔ P (.bl (isT .non t)) h := Iff.rfl
theorem is_non : vO (semC .is .non .non h) P ↔ P (.bl true) h := Iff.rfl
theorem is_int {i : Int} : vO (semC .is (.int i) .non h) P ↔ P (.bl false) h := Iff.rfl
theorem is_str {x : Str} : vO (semC .is (.str x) .non h) P ↔ P (.bl false) h := Iff.rfl
theorem eq_gen {a b : D} {k : Bool} (ha : a.pure = true) (hb : b.pure = true) (hd : a.depth = 0) (e : PyData.eqv a.py b.py = k) : vO (semC .eq a b h) P ↔ P (.bl k) h := by
  have z : eqD a b = some k := by
    unfold eqD
    rw [if_pos ⟨ha, hb, by omega⟩, e]
  have : semC .eq a b h = some (.bl k, h) := by simp only [semC, semEq, z, Option.map_some]; rfl
  rw [this]; exact Iff.rfl
theorem eq_ff : vO (semC .eq (.bl false) (.bl false) h) P ↔ P (.bl true) h := eq_gen rfl rfl rfl (by simp [D.py, PyData.eqv])
theorem eq_str {x : Str} : vO (semC .eq (.str x) (.str x) h) P ↔ P (.bl true) h := eq_gen rfl rfl rfl (by simp [D.py, PyData.eqv])
theorem ne_ii {i j : Int} : vO (semC .ne (.int i) (.int j) h) P ↔ P (.bl !(decide (i = j))) h := by
  have := ne_v (a := .int i) (b := .int j) (h := h) (P := P) ⟨rfl, Nat.zero_le _⟩ ⟨rfl, Nat.zero_le _⟩
  rw [this, show PyData.eqv (D.py (.int i)) (D.py (.int j)) = decide (i = j) from eqv_ii]
end
theorem tT5_5 {F : Fn} : tT5 F 5 = F := rfl
theorem alike_sat : ∀ (n : Nat) (d : D) (h : Hd), Vd n d → (fG5 (n + 1) [d, d] h).sat fun r h' => r = .bl true ∧ ∃ k, h' = h ++ k := by
  intro n
  induction n with
  | zero =>
    intro d h hv
    refine runP_v (C := tT5 (fG5 0)) (body := bB5) (n := 3) (p := 2) (σ := [some d, some d, none]) (by rfl) (by rfl) ?_
    unfold bB5
    cases hv <;> simp (maxSteps := 2000000) (disch := decide) only [↓ss_nil, ↓ss_cons, ↓FL.then_nx, ↓FL.then_rt, ↓FL.then_bk, ↓FL.then_ct, ↓retW_nx, ↓retW_rt, ↓s_expr, ↓s_ret, ↓s_retN, ↓s_set, ↓s_setc, ↓s_setix, ↓s_iff, ↓s_for, ↓s_brk, ↓s_cont, ↓s_pass, ↓v_var, ↓varD_some, ↓v_int, ↓v_str, ↓v_bl, ↓v_non, ↓v_op2, ↓v_cmp, ↓v_neg, ↓v_nt, ↓v_and, ↓v_or, ↓and1, ↓or1, ↓and2, ↓or2, ↓andT1, ↓orT1, ↓andT2, ↓orT2, ↓v_ife, ↓l_nil, ↓l_cons, ↓v_tup, ↓v_lst, ↓v_ix, ↓o_no, ↓o_yes, ↓inD1_int, ↓v_sl, ↓v_bc, ↓v_isi, ↓v_call, ↓v_app, ↓v_comp, ↓v_sortk, ↓v_sortl, ↓t_cmp, ↓t_nt, ↓t_and, ↓t_or, ↓t_var, ↓t_bl, ↓t_isi, ↓t_call, ↓blD_bl, ↓trD_bl, ↓itD_some, ↓i_seq, ↓i_enum, ↓i_rng1, ↓vO_some, ↓add_ii, ↓sub_ii, ↓lt_ii, ↓le_ii, ↓gt_ii, ↓ge_ii, ↓eq_ii, ↓abs_i, ↓int_i, ↓max_ii, ↓min_ii, ↓neg_i, ↓setW_some, ↓mul_ii, ↓mod_ii, ↓pow_ii, ↓div_ii, ↓reduceIte, and_self, ↓len_tup, List.getElem?_cons_zero, List.getElem?_cons_succ, List.set_cons_zero, List.set_cons_succ, tT5_5, ↓isD_int, ↓isD_str, ↓isD_non, ↓is_non, ↓is_int, ↓is_str, ↓eq_ff, ↓eq_str, show isT .int .tup = false from rfl, show isT .str .tup = false from rfl, show isT .non .tup = false from rfl, show isT .int .str = false from rfl, show isT .str .str = true from rfl, show isT .int .int = true from rfl, show isT .int .bl = false from rfl, Bool.false_eq_true, decide_true] <;> exact ⟨trivial, [], by simp⟩
  | succ n ih =>
    intro d h hv
    refine runP_v (C := tT5 (fG5 (n + 1))) (body := bB5) (n := 3) (p := 2) (σ := [some d, some d, none]) (by rfl) (by rfl) ?_
    unfold bB5
    cases hv with
    | tup _ ds hl hd =>
      simp (maxSteps := 2000000) (disch := decide) only [↓ss_nil, ↓ss_cons, ↓FL.then_nx, ↓FL.then_rt, ↓FL.then_bk, ↓FL.then_ct, ↓retW_nx, ↓retW_rt, ↓s_expr, ↓s_ret, ↓s_retN, ↓s_set, ↓s_setc, ↓s_setix, ↓s_iff, ↓s_for, ↓s_brk, ↓s_cont, ↓s_pass, ↓v_var, ↓varD_some, ↓v_int, ↓v_str, ↓v_bl, ↓v_non, ↓v_op2, ↓v_cmp, ↓v_neg, ↓v_nt, ↓v_and, ↓v_or, ↓and1, ↓or1, ↓and2, ↓or2, ↓andT1, ↓orT1, ↓andT2, ↓orT2, ↓v_ife, ↓l_nil, ↓l_cons, ↓v_tup, ↓v_lst, ↓v_ix, ↓o_no, ↓o_yes, ↓inD1_int, ↓v_sl, ↓v_bc, ↓v_isi, ↓v_call, ↓v_app, ↓v_comp, ↓v_sortk, ↓v_sortl, ↓t_cmp, ↓t_nt, ↓t_and, ↓t_or, ↓t_var, ↓t_bl, ↓t_isi, ↓t_call, ↓blD_bl, ↓trD_bl, ↓itD_some, ↓i_seq, ↓i_enum, ↓i_rng1, ↓vO_some, ↓add_ii, ↓sub_ii, ↓lt_ii, ↓le_ii, ↓gt_ii, ↓ge_ii, ↓eq_ii, ↓abs_i, ↓int_i, ↓max_ii, ↓min_ii, ↓neg_i, ↓setW_some, ↓mul_ii, ↓mod_ii, ↓pow_ii, ↓div_ii, ↓reduceIte, and_self, ↓len_tup, List.getElem?_cons_zero, List.getElem?_cons_succ, List.set_cons_zero, List.set_cons_succ, tT5_5, ↓isD_tup, ↓ne_ii, show isT .tup .tup = true from rfl, Bool.not_true, Bool.false_eq_true, decide_true]
      refine rngD_nat (by omega) ?_
      refine vCo_yes (fun i acc h' => acc = [] ∧ ∃ k, h' = h ++ k) ⟨rfl, [], by simp⟩ (fun _ _ _ _ _ _ z => nomatch z) (fun i acc h' x hx ⟨ea, k, eh⟩ => ?_) fun acc h' ⟨ea, k, eh⟩ => ?_
      · obtain ⟨hi, rfl⟩ := rng_get hx
        have e1 := List.getElem?_eq_getElem hi
        refine ⟨_, rfl, ?_⟩
        simp (maxSteps := 2000000) (disch := decide) only [↓ss_nil, ↓ss_cons, ↓FL.then_nx, ↓FL.then_rt, ↓FL.then_bk, ↓FL.then_ct, ↓retW_nx, ↓retW_rt, ↓s_expr, ↓s_ret, ↓s_retN, ↓s_set, ↓s_setc, ↓s_setix, ↓s_iff, ↓s_for, ↓s_brk, ↓s_cont, ↓s_pass, ↓v_var, ↓varD_some, ↓v_int, ↓v_str, ↓v_bl, ↓v_non, ↓v_op2, ↓v_cmp, ↓v_neg, ↓v_nt, ↓v_and, ↓v_or, ↓and1, ↓or1, ↓and2, ↓or2, ↓andT1, ↓orT1, ↓andT2, ↓orT2, ↓v_ife, ↓l_nil, ↓l_cons, ↓v_tup, ↓v_lst, ↓v_ix, ↓o_no, ↓o_yes, ↓inD1_int, ↓v_sl, ↓v_bc, ↓v_isi, ↓v_call, ↓v_app, ↓v_comp, ↓v_sortk, ↓v_sortl, ↓t_cmp, ↓t_nt, ↓t_and, ↓t_or, ↓t_var, ↓t_bl, ↓t_isi, ↓t_call, ↓blD_bl, ↓trD_bl, ↓itD_some, ↓i_seq, ↓i_enum, ↓i_rng1, ↓vO_some, ↓add_ii, ↓sub_ii, ↓lt_ii, ↓le_ii, ↓gt_ii, ↓ge_ii, ↓eq_ii, ↓abs_i, ↓int_i, ↓max_ii, ↓min_ii, ↓neg_i, ↓setW_some, ↓mul_ii, ↓mod_ii, ↓pow_ii, ↓div_ii, ↓reduceIte, and_self, ↓len_tup, List.getElem?_cons_zero, List.getElem?_cons_succ, List.set_cons_zero, List.set_cons_succ, wipeD, tT5_5, ↓ix_tup (atI_nat e1)]
        refine vC.mono (ih _ _ (hd _ (List.getElem_mem hi))) fun r h2 ⟨er, k2, e2⟩ => ?_
        subst er
        simp (maxSteps := 2000000) (disch := decide) only [↓ss_nil, ↓ss_cons, ↓FL.then_nx, ↓FL.then_rt, ↓FL.then_bk, ↓FL.then_ct, ↓retW_nx, ↓retW_rt, ↓s_expr, ↓s_ret, ↓s_retN, ↓s_set, ↓s_setc, ↓s_setix, ↓s_iff, ↓s_for, ↓s_brk, ↓s_cont, ↓s_pass, ↓v_var, ↓varD_some, ↓v_int, ↓v_str, ↓v_bl, ↓v_non, ↓v_op2, ↓v_cmp, ↓v_neg, ↓v_nt, ↓v_and, ↓v_or, ↓and1, ↓or1, ↓and2, ↓or2, ↓andT1, ↓orT1, ↓andT2, ↓orT2, ↓v_ife, ↓l_nil, ↓l_cons, ↓v_tup, ↓v_lst, ↓v_ix, ↓o_no, ↓o_yes, ↓inD1_int, ↓v_sl, ↓v_bc, ↓v_isi, ↓v_call, ↓v_app, ↓v_comp, ↓v_sortk, ↓v_sortl, ↓t_cmp, ↓t_nt, ↓t_and, ↓t_or, ↓t_var, ↓t_bl, ↓t_isi, ↓t_call, ↓blD_bl, ↓trD_bl, ↓itD_some, ↓i_seq, ↓i_enum, ↓i_rng1, ↓vO_some, ↓add_ii, ↓sub_ii, ↓lt_ii, ↓le_ii, ↓gt_ii, ↓ge_ii, ↓eq_ii, ↓abs_i, ↓int_i, ↓max_ii, ↓min_ii, ↓neg_i, ↓setW_some, ↓mul_ii, ↓mod_ii, ↓pow_ii, ↓div_ii, ↓reduceIte, and_self, ↓len_tup, List.getElem?_cons_zero, List.getElem?_cons_succ, List.set_cons_zero, List.set_cons_succ, Bool.not_true, Bool.false_eq_true]
        exact ⟨ea, k ++ k2, by rw [e2, eh, List.append_assoc]⟩
      · subst ea
        refine ⟨Nat.zero_le _, ?_⟩
        refine (len_ref app_new).mpr ?_
        refine eq_ii.mpr ?_
        exact ⟨rfl, k ++ [.lst []], by rw [eh, List.append_assoc]⟩
    | non => 
      simp (maxSteps := 2000000) (disch := decide) only [↓ss_nil, ↓ss_cons, ↓FL.then_nx, ↓FL.then_rt, ↓FL.then_bk, ↓FL.then_ct, ↓retW_nx, ↓retW_rt, ↓s_expr, ↓s_ret, ↓s_retN, ↓s_set, ↓s_setc, ↓s_setix, ↓s_iff, ↓s_for, ↓s_brk, ↓s_cont, ↓s_pass, ↓v_var, ↓varD_some, ↓v_int, ↓v_str, ↓v_bl, ↓v_non, ↓v_op2, ↓v_cmp, ↓v_neg, ↓v_nt, ↓v_and, ↓v_or, ↓and1, ↓or1, ↓and2, ↓or2, ↓andT1, ↓orT1, ↓andT2, ↓orT2, ↓v_ife, ↓l_nil, ↓l_cons, ↓v_tup, ↓v_lst, ↓v_ix, ↓o_no, ↓o_yes, ↓inD1_int, ↓v_sl, ↓v_bc, ↓v_isi, ↓v_call, ↓v_app, ↓v_comp, ↓v_sortk, ↓v_sortl, ↓t_cmp, ↓t_nt, ↓t_and, ↓t_or, ↓t_var, ↓t_bl, ↓t_isi, ↓t_call, ↓blD_bl, ↓trD_bl, ↓itD_some, ↓i_seq, ↓i_enum, ↓i_rng1, ↓vO_some, ↓add_ii, ↓sub_ii, ↓lt_ii, ↓le_ii, ↓gt_ii, ↓ge_ii, ↓eq_ii, ↓abs_i, ↓int_i, ↓max_ii, ↓min_ii, ↓neg_i, ↓setW_some, ↓mul_ii, ↓mod_ii, ↓pow_ii, ↓div_ii, ↓reduceIte, and_self, ↓len_tup, List.getElem?_cons_zero, List.getElem?_cons_succ, List.set_cons_zero, List.set_cons_succ, tT5_5, ↓isD_non, ↓is_non, show isT .non .tup = false from rfl, Bool.false_eq_true]
      exact ⟨trivial, [], by simp⟩
    | int =>
      simp (maxSteps := 2000000) (disch := decide) only [↓ss_nil, ↓ss_cons, ↓FL.then_nx, ↓FL.then_rt, ↓FL.then_bk, ↓FL.then_ct, ↓retW_nx, ↓retW_rt, ↓s_expr, ↓s_ret, ↓s_retN, ↓s_set, ↓s_setc, ↓s_setix, ↓s_iff, ↓s_for, ↓s_brk, ↓s_cont, ↓s_pass, ↓v_var, ↓varD_some, ↓v_int, ↓v_str, ↓v_bl, ↓v_non, ↓v_op2, ↓v_cmp, ↓v_neg, ↓v_nt, ↓v_and, ↓v_or, ↓and1, ↓or1, ↓and2, ↓or2, ↓andT1, ↓orT1, ↓andT2, ↓orT2, ↓v_ife, ↓l_nil, ↓l_cons, ↓v_tup, ↓v_lst, ↓v_ix, ↓o_no, ↓o_yes, ↓inD1_int, ↓v_sl, ↓v_bc, ↓v_isi, ↓v_call, ↓v_app, ↓v_comp, ↓v_sortk, ↓v_sortl, ↓t_cmp, ↓t_nt, ↓t_and, ↓t_or, ↓t_var, ↓t_bl, ↓t_isi, ↓t_call, ↓blD_bl, ↓trD_bl, ↓itD_some, ↓i_seq, ↓i_enum, ↓i_rng1, ↓vO_some, ↓add_ii, ↓sub_ii, ↓lt_ii, ↓le_ii, ↓gt_ii, ↓ge_ii, ↓eq_ii, ↓abs_i, ↓int_i, ↓max_ii, ↓min_ii, ↓neg_i, ↓setW_some, ↓mul_ii, ↓mod_ii, ↓pow_ii, ↓div_ii, ↓reduceIte, and_self, ↓len_tup, List.getElem?_cons_zero, List.getElem?_cons_succ, List.set_cons_zero, List.set_cons_succ, tT5_5, ↓isD_int, ↓is_int, ↓eq_ff, show isT .int .tup = false from rfl, show isT .int .str = false from rfl, show isT .int .int = true from rfl, show isT .int .bl = false from rfl, Bool.false_eq_true, decide_true]
      exact ⟨trivial, [], by simp⟩
    | str =>
      simp (maxSteps := 2000000) (disch := decide) only [↓ss_nil, ↓ss_cons, ↓FL.then_nx, ↓FL.then_rt, ↓FL.then_bk, ↓FL.then_ct, ↓retW_nx, ↓retW_rt, ↓s_expr, ↓s_ret, ↓s_retN, ↓s_set, ↓s_setc, ↓s_setix, ↓s_iff, ↓s_for, ↓s_brk, ↓s_cont, ↓s_pass, ↓v_var, ↓varD_some, ↓v_int, ↓v_str, ↓v_bl, ↓v_non, ↓v_op2, ↓v_cmp, ↓v_neg, ↓v_nt, ↓v_and, ↓v_or, ↓and1, ↓or1, ↓and2, ↓or2, ↓andT1, ↓orT1, ↓andT2, ↓orT2, ↓v_ife, ↓l_nil, ↓l_cons, ↓v_tup, ↓v_lst, ↓v_ix, ↓o_no, ↓o_yes, ↓inD1_int, ↓v_sl, ↓v_bc, ↓v_isi, ↓v_call, ↓v_app, ↓v_comp, ↓v_sortk, ↓v_sortl, ↓t_cmp, ↓t_nt, ↓t_and, ↓t_or, ↓t_var, ↓t_bl, ↓t_isi, ↓t_call, ↓blD_bl, ↓trD_bl, ↓itD_some, ↓i_seq, ↓i_enum, ↓i_rng1, ↓vO_some, ↓add_ii, ↓sub_ii, ↓lt_ii, ↓le_ii, ↓gt_ii, ↓ge_ii, ↓eq_ii, ↓abs_i, ↓int_i, ↓max_ii, ↓min_ii, ↓neg_i, ↓setW_some, ↓mul_ii, ↓mod_ii, ↓pow_ii, ↓div_ii, ↓reduceIte, and_self, ↓len_tup, List.getElem?_cons_zero, List.getElem?_cons_succ, List.set_cons_zero, List.set_cons_succ, tT5_5, ↓isD_str, ↓is_str, ↓eq_str, show isT .str .tup = false from rfl, show isT .str .str = true from rfl, Bool.false_eq_true]
      exact ⟨trivial, [], by simp⟩
end DL

set_option Elab.async false
set_option linter.all false
set_option maxRecDepth 100000
set_option maxHeartbeats 2000000
namespace DL
open PySem PySem.Spec PyProof.Rows L2
theorem El.vd {d : D} (h : El d) (n : Nat) : Vd (n + 1) d := by
  have sc : ∀ {d : D} (n : Nat), Sc d → Vd n d := fun {d} n h => by cases h with
    | int i => exact .int _ _
    | str x _ => exact .str _ _
  cases h with
  | sc h => exact sc _ h
  | @pair a b h1 h2 =>
    refine .tup n [a, b] (by show 2 ≤ 100000; decide) fun x hx => ?_
    rcases List.mem_cons.mp hx with rfl | hx
    · exact sc _ h1
    · rw [List.mem_singleton.mp hx]; exact sc _ h2
theorem Ed.vd {d : D} (h : Ed 5 d) (n : Nat) : Vd (n + 3) d := by
  cases h with
  | mk s e ins hi hl =>
    refine .tup (n + 2) _ (by show 3 ≤ 100000; decide) fun x hx => ?_
    simp only [List.mem_cons, List.not_mem_nil, or_false] at hx
    rcases hx with rfl | rfl | rfl
    · exact .int _ _
    · exact .int _ _
    · exact .tup (n + 1) ins (by omega) fun y hy => (hi y hy).vd n
theorem Vd.up {n : Nat} {d : D} (h : Vd n d) : Vd (n + 1) d := by
  induction h with
  | non n => exact .non _
  | int n i => exact .int _ _
  | str n x => exact .str _ _
  | tup n ds hl h ih => exact .tup _ ds hl ih
theorem sortB_mem {bs : List (D × D)} {x : D} (h : x ∈ sortB bs) : x ∈ bs.map (·.1) := by
  unfold sortB at h
  obtain ⟨p, hp, rfl⟩ := List.mem_map.mp h
  exact List.mem_map.mpr ⟨p, List.mem_mergeSort.mp hp, rfl⟩
theorem sortE_mem {ds : List D} {x : D} (h : x ∈ sortE ds) : x ∈ ds := by
  have h1 := sortB_mem h
  rwa [List.map_fst_zip (by simp)] at h1
theorem sortE_len {ds : List D} : (sortE ds).length = ds.length := by
  unfold sortE sortB
  rw [List.length_map, List.length_mergeSort, List.length_zip, List.length_map, Nat.min_self]
theorem dueD_vd {o t : List D} (ho : ∀ x ∈ o, Ed 5 x) (ht : ∀ x ∈ t, Ed 5 x) (lo : o.length ≤ 10) (lt : t.length ≤ 10) : Vd 6 (dueD o t (mrg o t)) := by
  have hm : Vd 5 (.tup (mrg o t)) := by
    refine .tup 4 _ ?_ fun x hx => (fr_ed ho ht x (sortE_mem hx)).vd 1
    unfold mrg
    rw [sortE_len, List.length_append]
    have := List.length_filter_le (freshB o) t
    omega
  have hp : Vd 5 (.tup (prs o t)) := by
    refine .tup 4 _ ?_ fun x hx => ?_
    · have h1 := rows_len (o := o) (t := t) (n := o.length)
      have h3 : o.length * t.length ≤ 10 * 10 := Nat.mul_le_mul lo lt
      unfold prs; omega
    · unfold prs rows row at hx
      obtain ⟨i, _, hx⟩ := List.mem_flatMap.mp hx
      obtain ⟨j, _, hx⟩ := List.mem_filterMap.mp hx
      unfold cell at hx
      split at hx
      · cases hx
        refine .tup 3 _ (by show 2 ≤ 100000; decide) fun y hy => ?_
        simp only [List.mem_cons, List.not_mem_nil, or_false] at hy
        rcases hy with rfl | rfl <;> exact .int _ _
      · cases hx
  unfold dueD
  split
  · refine .tup 5 _ (by show 2 ≤ 100000; decide) fun y hy => ?_
    simp only [List.mem_cons, List.not_mem_nil, or_false] at hy
    rcases hy with rfl | rfl
    · exact .tup 4 [] (Nat.zero_le _) (by simp)
    · exact hm
  · refine .tup 5 _ (by show 2 ≤ 100000; decide) fun y hy => ?_
    simp only [List.mem_cons, List.not_mem_nil, or_false] at hy
    rcases hy with rfl | rfl
    · exact hp
    · exact .non _
section
variable {t p : Nat} {h : Hd} {P : D → Hd → Prop}
theorem pool_v (T : Tape t h) (q : ∀ p h', p ≠ t → Pool p h' → Tape t h' → Fr t h h' → P (.ref p) h') : vC fF8 [.ref t] h P := vC.mono (pool_sat T) fun d h' ⟨p, e, a, b, c, f⟩ => by subst e; exact q p h' a b c f
theorem contents_v {m : Int} (T : Tape t h) (n : p ≠ t) (q : Pool p h) (hm : 2 ≤ m) (hm2 : m ≤ 1000) (r : ∀ bs h', (bs.length : Int) ≤ m → Tape t h' → Fr t h h' → P (.tup bs) h') : vC fF9 [.ref t, .ref p, .int m] h P := vC.mono (contents_sat T n q hm hm2) fun d h' ⟨⟨bs, e, a, _⟩, b, c⟩ => by subst e; exact r bs h' a b c
theorem edits_v {m : Int} {bs : List D} (T : Tape t h) (n : p ≠ t) (q : Pool p h) (hm : 0 ≤ m) (hm2 : m ≤ 1000) (hb : bs.length ≤ 1000) (r : ∀ es h', (∀ x ∈ es, Ed 4 x) → (es.length : Int) ≤ m → Tape t h' → Fr t h h' → P (.tup es) h') : vC fF11 [.ref t, .tup bs, .ref p, .int m] h P := vC.mono (edits_sat T n q hm hm2 hb) fun d h' ⟨⟨es, e, a, a2⟩, b, c⟩ => by subst e; exact r es h' a a2 b c
end
theorem tT14_1 : tT14 1 = fF1 := rfl
theorem tT14_2 : tT14 2 = fF2 := rfl
theorem tT14_3 : tT14 3 = fF3 := rfl
theorem tT14_4 : tT14 4 = fF4 := rfl
theorem tT14_5 : tT14 5 = fF5 := rfl
theorem tT14_8 : tT14 8 = fF8 := rfl
theorem tT14_9 : tT14 9 = fF9 := rfl
theorem tT14_11 : tT14 11 = fF11 := rfl
theorem tT14_12 : tT14 12 = fF12 := rfl
theorem tT14_13 : tT14 13 = fF13 := rfl
/-- one pair of edit lists -/
theorem pair_v {o t : List D} {h : Hd} {P : D → Hd → Prop} (ho : ∀ x ∈ o, Ed 5 x) (ht : ∀ x ∈ t, Ed 5 x) (lo : o.length ≤ 10) (lt : t.length ≤ 10) (q : ∀ k, P (.bl true) (h ++ k)) :
    vC fF5 [dueD o t (mrg o t), dueD o t (mrg o t)] h P := by
  have := alike_sat 7 (dueD o t (mrg o t)) h (by
    have v := dueD_vd ho ht lo lt
    exact v.up)
  exact vC.mono this fun r h' ⟨e, k, e2⟩ => by subst e e2; exact q k
end DL

set_option Elab.async false
set_option linter.all false
set_option maxRecDepth 100000
set_option maxHeartbeats 2000000
namespace DL
open PySem PySem.Spec PyProof.Rows L2
theorem sl_tup {ds : List D} {lo hi : Option Int} {h : Hd} {P : D → Hd → Prop} : vO (semSl (.tup ds) lo hi h) P ↔ P (.tup (cutD ds lo hi)) h := Iff.rfl
theorem add_tt {xs ys : List D} {h : Hd} {P : D → Hd → Prop} (z : xs.length + ys.length ≤ 1000000) : vO (semO .add (.tup xs) (.tup ys) h) P ↔ P (.tup (xs ++ ys)) h := by
  have : semO .add (.tup xs) (.tup ys) h = some (.tup (xs ++ ys), h) := by
    simp only [semO, semAdd]
    rw [if_pos (len_le z rfl)]
  rw [this]; exact Iff.rfl
theorem cut_le {xs : List D} {lo hi : Option Int} : (cutD xs lo hi).length ≤ xs.length := by
  unfold cutD
  rw [List.length_take, List.length_drop]; omega
theorem law_sat (ns : List Int) (d : D) (h : Hd) (hn : ns.length ≤ 63) (S : ScriptD (ns.map D.int) d h) : (fF14 [d] h).sat fun r _ => r = .bl true := by
  refine runP_v (σ := [some d, none, none, none, none, none, none, none, none, none, none, none, none, none]) (by rfl) (by rfl) ?_
  unfold bB14
  refine ss_mid (fun τ' h' => ∃ t, τ' = [some d, some (.ref t), none, none, none, none, none, none, none, none, none, none, none, none] ∧ Tape t h') ?_ ?_
  · simp (maxSteps := 2000000) (disch := decide) only [↓ss_nil, ↓ss_cons, ↓FL.then_nx, ↓FL.then_rt, ↓FL.then_bk, ↓FL.then_ct, ↓retW_nx, ↓retW_rt, ↓s_expr, ↓s_ret, ↓s_retN, ↓s_set, ↓s_setc, ↓s_setix, ↓s_iff, ↓s_for, ↓s_brk, ↓s_cont, ↓s_pass, ↓v_var, ↓varD_some, ↓v_int, ↓v_str, ↓v_bl, ↓v_non, ↓v_op2, ↓v_cmp, ↓v_neg, ↓v_nt, ↓v_and, ↓v_or, ↓and1, ↓or1, ↓and2, ↓or2, ↓andT1, ↓orT1, ↓andT2, ↓orT2, ↓v_ife, ↓l_nil, ↓l_cons, ↓v_tup, ↓v_lst, ↓v_ix, ↓o_no, ↓o_yes, ↓inD1_int, ↓v_sl, ↓v_bc, ↓v_isi, ↓v_call, ↓v_app, ↓v_comp, ↓v_sortk, ↓v_sortl, ↓t_cmp, ↓t_nt, ↓t_and, ↓t_or, ↓t_var, ↓t_bl, ↓t_isi, ↓t_call, ↓blD_bl, ↓trD_bl, ↓itD_some, ↓i_seq, ↓i_enum, ↓i_rng1, ↓vO_some, ↓add_ii, ↓sub_ii, ↓lt_ii, ↓le_ii, ↓gt_ii, ↓ge_ii, ↓eq_ii, ↓abs_i, ↓int_i, ↓max_ii, ↓min_ii, ↓neg_i, ↓setW_some, ↓mul_ii, ↓mod_ii, ↓pow_ii, ↓div_ii, ↓reduceIte, and_self, ↓len_tup, List.getElem?_cons_zero, List.getElem?_cons_succ, List.set_cons_zero, List.set_cons_succ, tT14_3]
    exact vC.mono (tape_sat hn S) fun r h' ⟨t, e, T⟩ => by subst e; exact ⟨t, rfl, T⟩
  rintro τ1 h1 ⟨t, rfl, T1⟩
  refine ss_mid (fun τ' h' => ∃ p, τ' = [some d, some (.ref t), some (.ref p), none, none, none, none, none, none, none, none, none, none, none] ∧ Tape t h' ∧ p ≠ t ∧ Pool p h') ?_ ?_
  · simp (maxSteps := 2000000) (disch := decide) only [↓ss_nil, ↓ss_cons, ↓FL.then_nx, ↓FL.then_rt, ↓FL.then_bk, ↓FL.then_ct, ↓retW_nx, ↓retW_rt, ↓s_expr, ↓s_ret, ↓s_retN, ↓s_set, ↓s_setc, ↓s_setix, ↓s_iff, ↓s_for, ↓s_brk, ↓s_cont, ↓s_pass, ↓v_var, ↓varD_some, ↓v_int, ↓v_str, ↓v_bl, ↓v_non, ↓v_op2, ↓v_cmp, ↓v_neg, ↓v_nt, ↓v_and, ↓v_or, ↓and1, ↓or1, ↓and2, ↓or2, ↓andT1, ↓orT1, ↓andT2, ↓orT2, ↓v_ife, ↓l_nil, ↓l_cons, ↓v_tup, ↓v_lst, ↓v_ix, ↓o_no, ↓o_yes, ↓inD1_int, ↓v_sl, ↓v_bc, ↓v_isi, ↓v_call, ↓v_app, ↓v_comp, ↓v_sortk, ↓v_sortl, ↓t_cmp, ↓t_nt, ↓t_and, ↓t_or, ↓t_var, ↓t_bl, ↓t_isi, ↓t_call, ↓blD_bl, ↓trD_bl, ↓itD_some, ↓i_seq, ↓i_enum, ↓i_rng1, ↓vO_some, ↓add_ii, ↓sub_ii, ↓lt_ii, ↓le_ii, ↓gt_ii, ↓ge_ii, ↓eq_ii, ↓abs_i, ↓int_i, ↓max_ii, ↓min_ii, ↓neg_i, ↓setW_some, ↓mul_ii, ↓mod_ii, ↓pow_ii, ↓div_ii, ↓reduceIte, and_self, ↓len_tup, List.getElem?_cons_zero, List.getElem?_cons_succ, List.set_cons_zero, List.set_cons_succ, tT14_8]
    exact pool_v T1 fun p h' n q T f => ⟨p, rfl, T, n, q⟩
  rintro τ2 h2 ⟨p, rfl, T2, np, q2⟩
  refine ss_mid (fun τ' h' => ∃ bs, τ' = [some d, some (.ref t), some (.ref p), some (.tup bs), none, none, none, none, none, none, none, none, none, none] ∧ bs.length ≤ 14 ∧ Tape t h' ∧ Pool p h') ?_ ?_
  · simp (maxSteps := 2000000) (disch := decide) only [↓ss_nil, ↓ss_cons, ↓FL.then_nx, ↓FL.then_rt, ↓FL.then_bk, ↓FL.then_ct, ↓retW_nx, ↓retW_rt, ↓s_expr, ↓s_ret, ↓s_retN, ↓s_set, ↓s_setc, ↓s_setix, ↓s_iff, ↓s_for, ↓s_brk, ↓s_cont, ↓s_pass, ↓v_var, ↓varD_some, ↓v_int, ↓v_str, ↓v_bl, ↓v_non, ↓v_op2, ↓v_cmp, ↓v_neg, ↓v_nt, ↓v_and, ↓v_or, ↓and1, ↓or1, ↓and2, ↓or2, ↓andT1, ↓orT1, ↓andT2, ↓orT2, ↓v_ife, ↓l_nil, ↓l_cons, ↓v_tup, ↓v_lst, ↓v_ix, ↓o_no, ↓o_yes, ↓inD1_int, ↓v_sl, ↓v_bc, ↓v_isi, ↓v_call, ↓v_app, ↓v_comp, ↓v_sortk, ↓v_sortl, ↓t_cmp, ↓t_nt, ↓t_and, ↓t_or, ↓t_var, ↓t_bl, ↓t_isi, ↓t_call, ↓blD_bl, ↓trD_bl, ↓itD_some, ↓i_seq, ↓i_enum, ↓i_rng1, ↓vO_some, ↓add_ii, ↓sub_ii, ↓lt_ii, ↓le_ii, ↓gt_ii, ↓ge_ii, ↓eq_ii, ↓abs_i, ↓int_i, ↓max_ii, ↓min_ii, ↓neg_i, ↓setW_some, ↓mul_ii, ↓mod_ii, ↓pow_ii, ↓div_ii, ↓reduceIte, and_self, ↓len_tup, List.getElem?_cons_zero, List.getElem?_cons_succ, List.set_cons_zero, List.set_cons_succ, tT14_9]
    exact contents_v T2 np q2 (by decide) (by decide) fun bs h' l T f => ⟨bs, rfl, by omega, T, q2.fr f np⟩
  rintro τ3 h3 ⟨bs, rfl, lb, T3, q3⟩
  refine ss_mid (fun τ' h' => ∃ es, τ' = [some d, some (.ref t), some (.ref p), some (.tup bs), some (.tup es), none, none, none, none, none, none, none, none, none] ∧ es.length ≤ 5 ∧ (∀ x ∈ es, Ed 4 x) ∧ Tape t h' ∧ Pool p h') ?_ ?_
  · simp (maxSteps := 2000000) (disch := decide) only [↓ss_nil, ↓ss_cons, ↓FL.then_nx, ↓FL.then_rt, ↓FL.then_bk, ↓FL.then_ct, ↓retW_nx, ↓retW_rt, ↓s_expr, ↓s_ret, ↓s_retN, ↓s_set, ↓s_setc, ↓s_setix, ↓s_iff, ↓s_for, ↓s_brk, ↓s_cont, ↓s_pass, ↓v_var, ↓varD_some, ↓v_int, ↓v_str, ↓v_bl, ↓v_non, ↓v_op2, ↓v_cmp, ↓v_neg, ↓v_nt, ↓v_and, ↓v_or, ↓and1, ↓or1, ↓and2, ↓or2, ↓andT1, ↓orT1, ↓andT2, ↓orT2, ↓v_ife, ↓l_nil, ↓l_cons, ↓v_tup, ↓v_lst, ↓v_ix, ↓o_no, ↓o_yes, ↓inD1_int, ↓v_sl, ↓v_bc, ↓v_isi, ↓v_call, ↓v_app, ↓v_comp, ↓v_sortk, ↓v_sortl, ↓t_cmp, ↓t_nt, ↓t_and, ↓t_or, ↓t_var, ↓t_bl, ↓t_isi, ↓t_call, ↓blD_bl, ↓trD_bl, ↓itD_some, ↓i_seq, ↓i_enum, ↓i_rng1, ↓vO_some, ↓add_ii, ↓sub_ii, ↓lt_ii, ↓le_ii, ↓gt_ii, ↓ge_ii, ↓eq_ii, ↓abs_i, ↓int_i, ↓max_ii, ↓min_ii, ↓neg_i, ↓setW_some, ↓mul_ii, ↓mod_ii, ↓pow_ii, ↓div_ii, ↓reduceIte, and_self, ↓len_tup, List.getElem?_cons_zero, List.getElem?_cons_succ, List.set_cons_zero, List.set_cons_succ, tT14_11]
    exact edits_v T3 np q3 (by decide) (by decide) (by omega) fun es h' he l T f => ⟨es, rfl, by omega, he, T, q3.fr f np⟩
  rintro τ4 h4 ⟨es, rfl, le, he, T4, q4⟩
  refine ss_mid (fun τ' h' => ∃ os, τ' = [some d, some (.ref t), some (.ref p), some (.tup bs), some (.tup es), some (.tup os), none, none, none, none, none, none, none, none] ∧ os.length ≤ 5 ∧ (∀ x ∈ os, Ed 4 x) ∧ Tape t h' ∧ Pool p h') ?_ ?_
  · simp (maxSteps := 2000000) (disch := decide) only [↓ss_nil, ↓ss_cons, ↓FL.then_nx, ↓FL.then_rt, ↓FL.then_bk, ↓FL.then_ct, ↓retW_nx, ↓retW_rt, ↓s_expr, ↓s_ret, ↓s_retN, ↓s_set, ↓s_setc, ↓s_setix, ↓s_iff, ↓s_for, ↓s_brk, ↓s_cont, ↓s_pass, ↓v_var, ↓varD_some, ↓v_int, ↓v_str, ↓v_bl, ↓v_non, ↓v_op2, ↓v_cmp, ↓v_neg, ↓v_nt, ↓v_and, ↓v_or, ↓and1, ↓or1, ↓and2, ↓or2, ↓andT1, ↓orT1, ↓andT2, ↓orT2, ↓v_ife, ↓l_nil, ↓l_cons, ↓v_tup, ↓v_lst, ↓v_ix, ↓o_no, ↓o_yes, ↓inD1_int, ↓v_sl, ↓v_bc, ↓v_isi, ↓v_call, ↓v_app, ↓v_comp, ↓v_sortk, ↓v_sortl, ↓t_cmp, ↓t_nt, ↓t_and, ↓t_or, ↓t_var, ↓t_bl, ↓t_isi, ↓t_call, ↓blD_bl, ↓trD_bl, ↓itD_some, ↓i_seq, ↓i_enum, ↓i_rng1, ↓vO_some, ↓add_ii, ↓sub_ii, ↓lt_ii, ↓le_ii, ↓gt_ii, ↓ge_ii, ↓eq_ii, ↓abs_i, ↓int_i, ↓max_ii, ↓min_ii, ↓neg_i, ↓setW_some, ↓mul_ii, ↓mod_ii, ↓pow_ii, ↓div_ii, ↓reduceIte, and_self, ↓len_tup, List.getElem?_cons_zero, List.getElem?_cons_succ, List.set_cons_zero, List.set_cons_succ, tT14_4, ↓itSeq_tup]
    refine vCo_yes (fun i acc h' => acc.length ≤ i ∧ (∀ x ∈ acc, Ed 4 x) ∧ Tape t h' ∧ Pool p h') ⟨Nat.le_refl _, by simp, T4, q4⟩ (fun _ _ _ _ _ _ z => nomatch z) (fun i acc h' x hx ⟨la, ha, T, q⟩ => ?_) fun acc h' ⟨la, ha, T, q⟩ => ?_
    · refine ⟨_, rfl, ?_⟩
      have ex := he x (List.mem_of_getElem? hx)
      simp (maxSteps := 2000000) (disch := decide) only [↓ss_nil, ↓ss_cons, ↓FL.then_nx, ↓FL.then_rt, ↓FL.then_bk, ↓FL.then_ct, ↓retW_nx, ↓retW_rt, ↓s_expr, ↓s_ret, ↓s_retN, ↓s_set, ↓s_setc, ↓s_setix, ↓s_iff, ↓s_for, ↓s_brk, ↓s_cont, ↓s_pass, ↓v_var, ↓varD_some, ↓v_int, ↓v_str, ↓v_bl, ↓v_non, ↓v_op2, ↓v_cmp, ↓v_neg, ↓v_nt, ↓v_and, ↓v_or, ↓and1, ↓or1, ↓and2, ↓or2, ↓andT1, ↓orT1, ↓andT2, ↓orT2, ↓v_ife, ↓l_nil, ↓l_cons, ↓v_tup, ↓v_lst, ↓v_ix, ↓o_no, ↓o_yes, ↓inD1_int, ↓v_sl, ↓v_bc, ↓v_isi, ↓v_call, ↓v_app, ↓v_comp, ↓v_sortk, ↓v_sortl, ↓t_cmp, ↓t_nt, ↓t_and, ↓t_or, ↓t_var, ↓t_bl, ↓t_isi, ↓t_call, ↓blD_bl, ↓trD_bl, ↓itD_some, ↓i_seq, ↓i_enum, ↓i_rng1, ↓vO_some, ↓add_ii, ↓sub_ii, ↓lt_ii, ↓le_ii, ↓gt_ii, ↓ge_ii, ↓eq_ii, ↓abs_i, ↓int_i, ↓max_ii, ↓min_ii, ↓neg_i, ↓setW_some, ↓mul_ii, ↓mod_ii, ↓pow_ii, ↓div_ii, ↓reduceIte, and_self, ↓len_tup, List.getElem?_cons_zero, List.getElem?_cons_succ, List.set_cons_zero, List.set_cons_succ, wipeD, tT14_4]
      refine draw_v T (by decide) (by decide) fun v h5 v0 v1 T5 f5 => ?_
      try simp (maxSteps := 2000000) (disch := decide) only [↓ss_nil, ↓ss_cons, ↓FL.then_nx, ↓FL.then_rt, ↓FL.then_bk, ↓FL.then_ct, ↓retW_nx, ↓retW_rt, ↓s_expr, ↓s_ret, ↓s_retN, ↓s_set, ↓s_setc, ↓s_setix, ↓s_iff, ↓s_for, ↓s_brk, ↓s_cont, ↓s_pass, ↓v_var, ↓varD_some, ↓v_int, ↓v_str, ↓v_bl, ↓v_non, ↓v_op2, ↓v_cmp, ↓v_neg, ↓v_nt, ↓v_and, ↓v_or, ↓and1, ↓or1, ↓and2, ↓or2, ↓andT1, ↓orT1, ↓andT2, ↓orT2, ↓v_ife, ↓l_nil, ↓l_cons, ↓v_tup, ↓v_lst, ↓v_ix, ↓o_no, ↓o_yes, ↓inD1_int, ↓v_sl, ↓v_bc, ↓v_isi, ↓v_call, ↓v_app, ↓v_comp, ↓v_sortk, ↓v_sortl, ↓t_cmp, ↓t_nt, ↓t_and, ↓t_or, ↓t_var, ↓t_bl, ↓t_isi, ↓t_call, ↓blD_bl, ↓trD_bl, ↓itD_some, ↓i_seq, ↓i_enum, ↓i_rng1, ↓vO_some, ↓add_ii, ↓sub_ii, ↓lt_ii, ↓le_ii, ↓gt_ii, ↓ge_ii, ↓eq_ii, ↓abs_i, ↓int_i, ↓max_ii, ↓min_ii, ↓neg_i, ↓setW_some, ↓mul_ii, ↓mod_ii, ↓pow_ii, ↓div_ii, ↓reduceIte, and_self, ↓len_tup, List.getElem?_cons_zero, List.getElem?_cons_succ, List.set_cons_zero, List.set_cons_succ, wipeD, tT14_4]
      split
      · exact ⟨by rw [List.length_append]; exact Nat.succ_le_succ la, snoc_all ha ex, T5, q.fr f5 np⟩
      · exact ⟨Nat.le_succ_of_le la, ha, T5, q.fr f5 np⟩
    · have la : acc.length ≤ es.length := la
      refine ⟨len_le (a := acc.length) (by omega) rfl, (tuple_v (seqOf_ref app_new)).mpr ?_⟩
      exact ⟨acc, rfl, by omega, ha, T.app, q.fr (t := t) .app np⟩
  rintro τ5 h5 ⟨os, rfl, lo, ho, T5, q5⟩
  refine ss_mid (fun τ' h' => ∃ g ts, τ' = [some d, some (.ref t), some (.ref p), some (.tup bs), some (.tup es), some (.tup os), some (.ref g), none, none, none, none, none, none, none] ∧ h'[g]? = some (.lst ts) ∧ g ≠ t ∧ ts.length ≤ 5 ∧ (∀ x ∈ ts, Ed 4 x) ∧ Tape t h' ∧ Pool p h') ?_ ?_
  · simp (maxSteps := 2000000) (disch := decide) only [↓ss_nil, ↓ss_cons, ↓FL.then_nx, ↓FL.then_rt, ↓FL.then_bk, ↓FL.then_ct, ↓retW_nx, ↓retW_rt, ↓s_expr, ↓s_ret, ↓s_retN, ↓s_set, ↓s_setc, ↓s_setix, ↓s_iff, ↓s_for, ↓s_brk, ↓s_cont, ↓s_pass, ↓v_var, ↓varD_some, ↓v_int, ↓v_str, ↓v_bl, ↓v_non, ↓v_op2, ↓v_cmp, ↓v_neg, ↓v_nt, ↓v_and, ↓v_or, ↓and1, ↓or1, ↓and2, ↓or2, ↓andT1, ↓orT1, ↓andT2, ↓orT2, ↓v_ife, ↓l_nil, ↓l_cons, ↓v_tup, ↓v_lst, ↓v_ix, ↓o_no, ↓o_yes, ↓inD1_int, ↓v_sl, ↓v_bc, ↓v_isi, ↓v_call, ↓v_app, ↓v_comp, ↓v_sortk, ↓v_sortl, ↓t_cmp, ↓t_nt, ↓t_and, ↓t_or, ↓t_var, ↓t_bl, ↓t_isi, ↓t_call, ↓blD_bl, ↓trD_bl, ↓itD_some, ↓i_seq, ↓i_enum, ↓i_rng1, ↓vO_some, ↓add_ii, ↓sub_ii, ↓lt_ii, ↓le_ii, ↓gt_ii, ↓ge_ii, ↓eq_ii, ↓abs_i, ↓int_i, ↓max_ii, ↓min_ii, ↓neg_i, ↓setW_some, ↓mul_ii, ↓mod_ii, ↓pow_ii, ↓div_ii, ↓reduceIte, and_self, ↓len_tup, List.getElem?_cons_zero, List.getElem?_cons_succ, List.set_cons_zero, List.set_cons_succ, tT14_4, ↓itSeq_tup]
    refine vCo_yes (fun i acc h' => acc.length ≤ i ∧ (∀ x ∈ acc, Ed 4 x) ∧ Tape t h' ∧ Pool p h') ⟨Nat.le_refl _, by simp, T5, q5⟩ (fun _ _ _ _ _ _ z => nomatch z) (fun i acc h' x hx ⟨la, ha, T, q⟩ => ?_) fun acc h' ⟨la, ha, T, q⟩ => ?_
    · refine ⟨_, rfl, ?_⟩
      have ex := he x (List.mem_of_getElem? hx)
      simp (maxSteps := 2000000) (disch := decide) only [↓ss_nil, ↓ss_cons, ↓FL.then_nx, ↓FL.then_rt, ↓FL.then_bk, ↓FL.then_ct, ↓retW_nx, ↓retW_rt, ↓s_expr, ↓s_ret, ↓s_retN, ↓s_set, ↓s_setc, ↓s_setix, ↓s_iff, ↓s_for, ↓s_brk, ↓s_cont, ↓s_pass, ↓v_var, ↓varD_some, ↓v_int, ↓v_str, ↓v_bl, ↓v_non, ↓v_op2, ↓v_cmp, ↓v_neg, ↓v_nt, ↓v_and, ↓v_or, ↓and1, ↓or1, ↓and2, ↓or2, ↓andT1, ↓orT1, ↓andT2, ↓orT2, ↓v_ife, ↓l_nil, ↓l_cons, ↓v_tup, ↓v_lst, ↓v_ix, ↓o_no, ↓o_yes, ↓inD1_int, ↓v_sl, ↓v_bc, ↓v_isi, ↓v_call, ↓v_app, ↓v_comp, ↓v_sortk, ↓v_sortl, ↓t_cmp, ↓t_nt, ↓t_and, ↓t_or, ↓t_var, ↓t_bl, ↓t_isi, ↓t_call, ↓blD_bl, ↓trD_bl, ↓itD_some, ↓i_seq, ↓i_enum, ↓i_rng1, ↓vO_some, ↓add_ii, ↓sub_ii, ↓lt_ii, ↓le_ii, ↓gt_ii, ↓ge_ii, ↓eq_ii, ↓abs_i, ↓int_i, ↓max_ii, ↓min_ii, ↓neg_i, ↓setW_some, ↓mul_ii, ↓mod_ii, ↓pow_ii, ↓div_ii, ↓reduceIte, and_self, ↓len_tup, List.getElem?_cons_zero, List.getElem?_cons_succ, List.set_cons_zero, List.set_cons_succ, wipeD, tT14_4]
      refine draw_v T (by decide) (by decide) fun v h5 v0 v1 T5 f5 => ?_
      try simp (maxSteps := 2000000) (disch := decide) only [↓ss_nil, ↓ss_cons, ↓FL.then_nx, ↓FL.then_rt, ↓FL.then_bk, ↓FL.then_ct, ↓retW_nx, ↓retW_rt, ↓s_expr, ↓s_ret, ↓s_retN, ↓s_set, ↓s_setc, ↓s_setix, ↓s_iff, ↓s_for, ↓s_brk, ↓s_cont, ↓s_pass, ↓v_var, ↓varD_some, ↓v_int, ↓v_str, ↓v_bl, ↓v_non, ↓v_op2, ↓v_cmp, ↓v_neg, ↓v_nt, ↓v_and, ↓v_or, ↓and1, ↓or1, ↓and2, ↓or2, ↓andT1, ↓orT1, ↓andT2, ↓orT2, ↓v_ife, ↓l_nil, ↓l_cons, ↓v_tup, ↓v_lst, ↓v_ix, ↓o_no, ↓o_yes, ↓inD1_int, ↓v_sl, ↓v_bc, ↓v_isi, ↓v_call, ↓v_app, ↓v_comp, ↓v_sortk, ↓v_sortl, ↓t_cmp, ↓t_nt, ↓t_and, ↓t_or, ↓t_var, ↓t_bl, ↓t_isi, ↓t_call, ↓blD_bl, ↓trD_bl, ↓itD_some, ↓i_seq, ↓i_enum, ↓i_rng1, ↓vO_some, ↓add_ii, ↓sub_ii, ↓lt_ii, ↓le_ii, ↓gt_ii, ↓ge_ii, ↓eq_ii, ↓abs_i, ↓int_i, ↓max_ii, ↓min_ii, ↓neg_i, ↓setW_some, ↓mul_ii, ↓mod_ii, ↓pow_ii, ↓div_ii, ↓reduceIte, and_self, ↓len_tup, List.getElem?_cons_zero, List.getElem?_cons_succ, List.set_cons_zero, List.set_cons_succ, wipeD, tT14_4]
      split
      · exact ⟨by rw [List.length_append]; exact Nat.succ_le_succ la, snoc_all ha ex, T5, q.fr f5 np⟩
      · exact ⟨Nat.le_succ_of_le la, ha, T5, q.fr f5 np⟩
    · have la : acc.length ≤ es.length := la
      exact ⟨len_le (a := acc.length) (by omega) rfl, _, acc, rfl, app_new, Nat.ne_of_gt T.lt, by omega, ha, T.app, q.fr (t := t) .app np⟩
  rintro τ6 h6 ⟨g, ts, rfl, e6, ng, lt, ht, T6, q6⟩
  refine ss_mid (fun τ' h' => ∃ c : Int, τ' = [some d, some (.ref t), some (.ref p), some (.tup bs), some (.tup es), some (.tup os), some (.ref g), some (.int c), none, none, none, none, none, none] ∧ h'[g]? = some (.lst ts) ∧ Tape t h' ∧ Pool p h') ?_ ?_
  · simp (maxSteps := 2000000) (disch := decide) only [↓ss_nil, ↓ss_cons, ↓FL.then_nx, ↓FL.then_rt, ↓FL.then_bk, ↓FL.then_ct, ↓retW_nx, ↓retW_rt, ↓s_expr, ↓s_ret, ↓s_retN, ↓s_set, ↓s_setc, ↓s_setix, ↓s_iff, ↓s_for, ↓s_brk, ↓s_cont, ↓s_pass, ↓v_var, ↓varD_some, ↓v_int, ↓v_str, ↓v_bl, ↓v_non, ↓v_op2, ↓v_cmp, ↓v_neg, ↓v_nt, ↓v_and, ↓v_or, ↓and1, ↓or1, ↓and2, ↓or2, ↓andT1, ↓orT1, ↓andT2, ↓orT2, ↓v_ife, ↓l_nil, ↓l_cons, ↓v_tup, ↓v_lst, ↓v_ix, ↓o_no, ↓o_yes, ↓inD1_int, ↓v_sl, ↓v_bc, ↓v_isi, ↓v_call, ↓v_app, ↓v_comp, ↓v_sortk, ↓v_sortl, ↓t_cmp, ↓t_nt, ↓t_and, ↓t_or, ↓t_var, ↓t_bl, ↓t_isi, ↓t_call, ↓blD_bl, ↓trD_bl, ↓itD_some, ↓i_seq, ↓i_enum, ↓i_rng1, ↓vO_some, ↓add_ii, ↓sub_ii, ↓lt_ii, ↓le_ii, ↓gt_ii, ↓ge_ii, ↓eq_ii, ↓abs_i, ↓int_i, ↓max_ii, ↓min_ii, ↓neg_i, ↓setW_some, ↓mul_ii, ↓mod_ii, ↓pow_ii, ↓div_ii, ↓reduceIte, and_self, ↓len_tup, List.getElem?_cons_zero, List.getElem?_cons_succ, List.set_cons_zero, List.set_cons_succ, tT14_4]
    exact draw_v T6 (by decide) (by decide) fun v h5 v0 v1 T5 f5 => ⟨v, rfl, f5.keep _ _ ng e6, T5, q6.fr f5 np⟩
  rintro τ7 h7 ⟨c, rfl, e7, T7, q7⟩
  refine ss_mid (fun τ' h' => ∃ g ts x1 x2 x3 x4 x5 x6, τ' = [some d, some (.ref t), some (.ref p), some (.tup bs), some (.tup es), some (.tup os), some (.ref g), some (.int c), x1, x2, x3, x4, x5, x6] ∧ h'[g]? = some (.lst ts) ∧ ts.length ≤ 10 ∧ (∀ x ∈ ts, Ed 5 x)) ?_ ?_
  · simp (maxSteps := 2000000) (disch := decide) only [↓ss_nil, ↓ss_cons, ↓FL.then_nx, ↓FL.then_rt, ↓FL.then_bk, ↓FL.then_ct, ↓retW_nx, ↓retW_rt, ↓s_expr, ↓s_ret, ↓s_retN, ↓s_set, ↓s_setc, ↓s_setix, ↓s_iff, ↓s_for, ↓s_brk, ↓s_cont, ↓s_pass, ↓v_var, ↓varD_some, ↓v_int, ↓v_str, ↓v_bl, ↓v_non, ↓v_op2, ↓v_cmp, ↓v_neg, ↓v_nt, ↓v_and, ↓v_or, ↓and1, ↓or1, ↓and2, ↓or2, ↓andT1, ↓orT1, ↓andT2, ↓orT2, ↓v_ife, ↓l_nil, ↓l_cons, ↓v_tup, ↓v_lst, ↓v_ix, ↓o_no, ↓o_yes, ↓inD1_int, ↓v_sl, ↓v_bc, ↓v_isi, ↓v_call, ↓v_app, ↓v_comp, ↓v_sortk, ↓v_sortl, ↓t_cmp, ↓t_nt, ↓t_and, ↓t_or, ↓t_var, ↓t_bl, ↓t_isi, ↓t_call, ↓blD_bl, ↓trD_bl, ↓itD_some, ↓i_seq, ↓i_enum, ↓i_rng1, ↓vO_some, ↓add_ii, ↓sub_ii, ↓lt_ii, ↓le_ii, ↓gt_ii, ↓ge_ii, ↓eq_ii, ↓abs_i, ↓int_i, ↓max_ii, ↓min_ii, ↓neg_i, ↓setW_some, ↓mul_ii, ↓mod_ii, ↓pow_ii, ↓div_ii, ↓reduceIte, and_self, ↓len_tup, List.getElem?_cons_zero, List.getElem?_cons_succ, List.set_cons_zero, List.set_cons_succ, tT14_4, tT14_11, tT14_12, ↓len_ref e7]
    split
    · refine edits_v T7 np q7 (by decide) (by decide) (by omega) fun es2 h8 he2 l2 T8 f8 => ?_
      refine (list_v (d := .tup es2) (ds := es2) rfl).mpr ?_
      exact ⟨_, es2, _, _, _, _, _, _, rfl, app_new, by omega, fun x hx => (he2 x hx).up⟩
    · split
      · split
        · rename_i hlen
          have hl0 : 0 < (ts.length : Int) := of_decide_eq_true hlen
          refine draw_v T7 (by omega) (by omega) fun v h8 v0 v1 T8 f8 => ?_
          have e8 := f8.keep _ _ ng e7
          obtain ⟨j, rfl⟩ := Int.eq_ofNat_of_zero_le v0
          have hj : j < ts.length := by omega
          refine (ix_ref e8 (atI_nat (List.getElem?_eq_getElem hj))).mpr ?_
          have hx := ht _ (List.getElem_mem hj)
          revert hx
          generalize ts[j] = x
          intro hx
          cases hx with
          | mk s en ins hi hl =>
            simp (maxSteps := 2000000) (disch := decide) only [↓ss_nil, ↓ss_cons, ↓FL.then_nx, ↓FL.then_rt, ↓FL.then_bk, ↓FL.then_ct, ↓retW_nx, ↓retW_rt, ↓s_expr, ↓s_ret, ↓s_retN, ↓s_set, ↓s_setc, ↓s_setix, ↓s_iff, ↓s_for, ↓s_brk, ↓s_cont, ↓s_pass, ↓v_var, ↓varD_some, ↓v_int, ↓v_str, ↓v_bl, ↓v_non, ↓v_op2, ↓v_cmp, ↓v_neg, ↓v_nt, ↓v_and, ↓v_or, ↓and1, ↓or1, ↓and2, ↓or2, ↓andT1, ↓orT1, ↓andT2, ↓orT2, ↓v_ife, ↓l_nil, ↓l_cons, ↓v_tup, ↓v_lst, ↓v_ix, ↓o_no, ↓o_yes, ↓inD1_int, ↓v_sl, ↓v_bc, ↓v_isi, ↓v_call, ↓v_app, ↓v_comp, ↓v_sortk, ↓v_sortl, ↓t_cmp, ↓t_nt, ↓t_and, ↓t_or, ↓t_var, ↓t_bl, ↓t_isi, ↓t_call, ↓blD_bl, ↓trD_bl, ↓itD_some, ↓i_seq, ↓i_enum, ↓i_rng1, ↓vO_some, ↓add_ii, ↓sub_ii, ↓lt_ii, ↓le_ii, ↓gt_ii, ↓ge_ii, ↓eq_ii, ↓abs_i, ↓int_i, ↓max_ii, ↓min_ii, ↓neg_i, ↓setW_some, ↓mul_ii, ↓mod_ii, ↓pow_ii, ↓div_ii, ↓reduceIte, and_self, ↓len_tup, List.getElem?_cons_zero, List.getElem?_cons_succ, List.set_cons_zero, List.set_cons_succ, ↓ix_tup atI_0]
            refine draw_v T8 (by decide) (by decide) fun v2 h9 _ _ T9 f9 => ?_
            have e9 := f9.keep _ _ ng e8
            simp (maxSteps := 2000000) (disch := decide) only [↓ss_nil, ↓ss_cons, ↓FL.then_nx, ↓FL.then_rt, ↓FL.then_bk, ↓FL.then_ct, ↓retW_nx, ↓retW_rt, ↓s_expr, ↓s_ret, ↓s_retN, ↓s_set, ↓s_setc, ↓s_setix, ↓s_iff, ↓s_for, ↓s_brk, ↓s_cont, ↓s_pass, ↓v_var, ↓varD_some, ↓v_int, ↓v_str, ↓v_bl, ↓v_non, ↓v_op2, ↓v_cmp, ↓v_neg, ↓v_nt, ↓v_and, ↓v_or, ↓and1, ↓or1, ↓and2, ↓or2, ↓andT1, ↓orT1, ↓andT2, ↓orT2, ↓v_ife, ↓l_nil, ↓l_cons, ↓v_tup, ↓v_lst, ↓v_ix, ↓o_no, ↓o_yes, ↓inD1_int, ↓v_sl, ↓v_bc, ↓v_isi, ↓v_call, ↓v_app, ↓v_comp, ↓v_sortk, ↓v_sortl, ↓t_cmp, ↓t_nt, ↓t_and, ↓t_or, ↓t_var, ↓t_bl, ↓t_isi, ↓t_call, ↓blD_bl, ↓trD_bl, ↓itD_some, ↓i_seq, ↓i_enum, ↓i_rng1, ↓vO_some, ↓add_ii, ↓sub_ii, ↓lt_ii, ↓le_ii, ↓gt_ii, ↓ge_ii, ↓eq_ii, ↓abs_i, ↓int_i, ↓max_ii, ↓min_ii, ↓neg_i, ↓setW_some, ↓mul_ii, ↓mod_ii, ↓pow_ii, ↓div_ii, ↓reduceIte, and_self, ↓len_tup, List.getElem?_cons_zero, List.getElem?_cons_succ, List.set_cons_zero, List.set_cons_succ, ↓ix_tup atI_1, ↓list_v (seqOf_ref e9)]
            have q9 : Pool p (h9 ++ [.lst ts]) := ((q7.fr f8 np).fr f9 np).fr (t := t) .app np
            refine draw_v T9.app (by decide) (by decide) fun v3 hA _ _ TA fA => ?_
            have qA := q9.fr fA np
            have eA : hA[h9.length]? = some (.lst ts) := fA.keep _ _ (Nat.ne_of_gt T9.lt) app_new
            obtain ⟨ps, ep, pl1, pl2, pe⟩ := qA
            match ps, pl1 with
            | y :: ps, _ =>
              have ey := pe y List.mem_cons_self
              simp (maxSteps := 2000000) (disch := decide) only [↓ss_nil, ↓ss_cons, ↓FL.then_nx, ↓FL.then_rt, ↓FL.then_bk, ↓FL.then_ct, ↓retW_nx, ↓retW_rt, ↓s_expr, ↓s_ret, ↓s_retN, ↓s_set, ↓s_setc, ↓s_setix, ↓s_iff, ↓s_for, ↓s_brk, ↓s_cont, ↓s_pass, ↓v_var, ↓varD_some, ↓v_int, ↓v_str, ↓v_bl, ↓v_non, ↓v_op2, ↓v_cmp, ↓v_neg, ↓v_nt, ↓v_and, ↓v_or, ↓and1, ↓or1, ↓and2, ↓or2, ↓andT1, ↓orT1, ↓andT2, ↓orT2, ↓v_ife, ↓l_nil, ↓l_cons, ↓v_tup, ↓v_lst, ↓v_ix, ↓o_no, ↓o_yes, ↓inD1_int, ↓v_sl, ↓v_bc, ↓v_isi, ↓v_call, ↓v_app, ↓v_comp, ↓v_sortk, ↓v_sortl, ↓t_cmp, ↓t_nt, ↓t_and, ↓t_or, ↓t_var, ↓t_bl, ↓t_isi, ↓t_call, ↓blD_bl, ↓trD_bl, ↓itD_some, ↓i_seq, ↓i_enum, ↓i_rng1, ↓vO_some, ↓add_ii, ↓sub_ii, ↓lt_ii, ↓le_ii, ↓gt_ii, ↓ge_ii, ↓eq_ii, ↓abs_i, ↓int_i, ↓max_ii, ↓min_ii, ↓neg_i, ↓setW_some, ↓mul_ii, ↓mod_ii, ↓pow_ii, ↓div_ii, ↓reduceIte, and_self, ↓len_tup, List.getElem?_cons_zero, List.getElem?_cons_succ, List.set_cons_zero, List.set_cons_succ, ↓ix_tup atI_2, ↓ix_ref ep atI_0]
              refine ⟨len_le (a := 1) (by decide) rfl, ?_⟩
              refine (add_tt (by show ins.length + 1 ≤ _; omega)).mpr ?_
              refine draw_v TA (by decide) (by decide) fun v4 hB _ _ TB fB => ?_
              have eB := fB.keep _ _ (Nat.ne_of_gt T9.lt) eA
              refine inD1_int.mpr ?_
              refine sl_tup.mpr ⟨len_le (a := 3) (by decide) rfl, ?_⟩
              have ij : ixN ts.length (j : Int) = some j := by
                unfold ixN
                rw [if_pos (by omega), if_pos (by omega)]; simp
              rw [setD_ref eB ij]
              refine setW_some.mpr ?_
              have eC := set_at (o := .lst (ts.set j (.tup [.int (if 0 > s - v2 then 0 else s - v2), .int (en + v3), .tup (cutD (ins ++ [y]) (some v4) none)]))) eB
              have hC : ∀ x ∈ ts.set j (.tup [.int (if 0 > s - v2 then 0 else s - v2), .int (en + v3), .tup (cutD (ins ++ [y]) (some v4) none)]), Ed 5 x := fun x hx => by
                rcases List.mem_or_eq_of_mem_set hx with z | z
                · exact (ht x z).up
                · rw [z]
                  refine .mk _ _ _ (fun w hw => snoc_all hi ey w (cut_mem hw)) ?_
                  have := cut_le (xs := ins ++ [y]) (lo := some v4) (hi := none)
                  rw [List.length_append] at this
                  have h2 : [y].length = 1 := rfl
                  omega
              refine are_v eC hC fun b => ?_
              refine trD_bl.mpr ?_
              split
              · exact ⟨_, _, _, _, _, _, _, _, rfl, eC, by rw [List.length_set]; omega, hC⟩
              · refine ⟨g, ts, _, _, _, _, _, _, rfl, ?_, by omega, fun x hx => (ht x hx).up⟩
                rw [List.getElem?_set_ne (by have := (List.getElem?_eq_some_iff.mp e9).1; omega)]
                exact fB.keep _ _ ng (fA.keep _ _ ng (app_at e9))
        · exact ⟨g, ts, _, _, _, _, _, _, rfl, e7, by omega, fun x hx => (ht x hx).up⟩
      · exact ⟨g, ts, _, _, _, _, _, _, rfl, e7, by omega, fun x hx => (ht x hx).up⟩
  rintro τ8 h8 ⟨g', us, x1, x2, x3, x4, x5, x6, rfl, e8, lu, hu⟩
  have ho5 : ∀ x ∈ os, Ed 5 x := fun x hx => (ho x hx).up
  simp (maxSteps := 2000000) (disch := decide) only [↓ss_nil, ↓ss_cons, ↓FL.then_nx, ↓FL.then_rt, ↓FL.then_bk, ↓FL.then_ct, ↓retW_nx, ↓retW_rt, ↓s_expr, ↓s_ret, ↓s_retN, ↓s_set, ↓s_setc, ↓s_setix, ↓s_iff, ↓s_for, ↓s_brk, ↓s_cont, ↓s_pass, ↓v_var, ↓varD_some, ↓v_int, ↓v_str, ↓v_bl, ↓v_non, ↓v_op2, ↓v_cmp, ↓v_neg, ↓v_nt, ↓v_and, ↓v_or, ↓and1, ↓or1, ↓and2, ↓or2, ↓andT1, ↓orT1, ↓andT2, ↓orT2, ↓v_ife, ↓l_nil, ↓l_cons, ↓v_tup, ↓v_lst, ↓v_ix, ↓o_no, ↓o_yes, ↓inD1_int, ↓v_sl, ↓v_bc, ↓v_isi, ↓v_call, ↓v_app, ↓v_comp, ↓v_sortk, ↓v_sortl, ↓t_cmp, ↓t_nt, ↓t_and, ↓t_or, ↓t_var, ↓t_bl, ↓t_isi, ↓t_call, ↓blD_bl, ↓trD_bl, ↓itD_some, ↓i_seq, ↓i_enum, ↓i_rng1, ↓vO_some, ↓add_ii, ↓sub_ii, ↓lt_ii, ↓le_ii, ↓gt_ii, ↓ge_ii, ↓eq_ii, ↓abs_i, ↓int_i, ↓max_ii, ↓min_ii, ↓neg_i, ↓setW_some, ↓mul_ii, ↓mod_ii, ↓pow_ii, ↓div_ii, ↓reduceIte, and_self, ↓len_tup, List.getElem?_cons_zero, List.getElem?_cons_succ, List.set_cons_zero, List.set_cons_succ, tT14_1, tT14_2, tT14_5, tT14_13]
  refine (tuple_v (seqOf_ref e8)).mpr ⟨len_le (a := 2) (by decide) rfl, ?_⟩
  refine (tuple_v (seqOf_ref e8)).mpr ⟨len_le (a := 2) (by decide) rfl, len_le (a := 2) (by decide) rfl, len_le (a := 3) (by decide) rfl, ?_⟩
  refine (itSeq_ref app_new).mpr ?_
  have lo' : os.length ≤ 10 := by omega
  refine for_sat (fun i τ' h' => h'[h8.length]? = some (.lst [.tup [.tup os, .tup us], .tup [.tup us, .tup os], .tup [.tup os, .tup os]]) ∧ ∃ (a b : Option D), τ' = [some d, some (.ref t), some (.ref p), some (.tup bs), some (.tup es), some (.tup os), some (.ref g'), some (.int c), x1, x2, x3, x4, a, b]) ⟨app_new, _, _, rfl⟩ (fun _ _ h' _ ⟨e, _⟩ => gd1 e) (fun i τ' h' x hx ⟨eh, a, b, eτ⟩ => ?_) fun τ' h' ⟨eh, a, b, eτ⟩ => ?_
  · subst eτ
    obtain ⟨o, t', ho', ht', lo2, lt2, rfl⟩ : ∃ o t', (∀ x ∈ o, Ed 5 x) ∧ (∀ x ∈ t', Ed 5 x) ∧ o.length ≤ 10 ∧ t'.length ≤ 10 ∧ x = D.tup [.tup o, .tup t'] := by
      have hm := List.mem_of_getElem? hx
      simp only [List.mem_cons, List.not_mem_nil, or_false] at hm
      rcases hm with rfl | rfl | rfl
      · exact ⟨os, us, ho5, hu, lo', lu, rfl⟩
      · exact ⟨us, os, hu, ho5, lu, lo', rfl⟩
      · exact ⟨os, os, ho5, ho5, lo', lo', rfl⟩
    refine ⟨_, rfl, ?_⟩
    simp (maxSteps := 2000000) (disch := decide) only [↓ss_nil, ↓ss_cons, ↓FL.then_nx, ↓FL.then_rt, ↓FL.then_bk, ↓FL.then_ct, ↓retW_nx, ↓retW_rt, ↓s_expr, ↓s_ret, ↓s_retN, ↓s_set, ↓s_setc, ↓s_setix, ↓s_iff, ↓s_for, ↓s_brk, ↓s_cont, ↓s_pass, ↓v_var, ↓varD_some, ↓v_int, ↓v_str, ↓v_bl, ↓v_non, ↓v_op2, ↓v_cmp, ↓v_neg, ↓v_nt, ↓v_and, ↓v_or, ↓and1, ↓or1, ↓and2, ↓or2, ↓andT1, ↓orT1, ↓andT2, ↓orT2, ↓v_ife, ↓l_nil, ↓l_cons, ↓v_tup, ↓v_lst, ↓v_ix, ↓o_no, ↓o_yes, ↓inD1_int, ↓v_sl, ↓v_bc, ↓v_isi, ↓v_call, ↓v_app, ↓v_comp, ↓v_sortk, ↓v_sortl, ↓t_cmp, ↓t_nt, ↓t_and, ↓t_or, ↓t_var, ↓t_bl, ↓t_isi, ↓t_call, ↓blD_bl, ↓trD_bl, ↓itD_some, ↓i_seq, ↓i_enum, ↓i_rng1, ↓vO_some, ↓add_ii, ↓sub_ii, ↓lt_ii, ↓le_ii, ↓gt_ii, ↓ge_ii, ↓eq_ii, ↓abs_i, ↓int_i, ↓max_ii, ↓min_ii, ↓neg_i, ↓setW_some, ↓mul_ii, ↓mod_ii, ↓pow_ii, ↓div_ii, ↓reduceIte, and_self, ↓len_tup, List.getElem?_cons_zero, List.getElem?_cons_succ, List.set_cons_zero, List.set_cons_succ, tT14_1, tT14_2, tT14_5, tT14_13, ↓ix_tup atI_0, ↓ix_tup atI_1]
    refine clashes_v ho' ht' lo2 lt2 ?_
    try simp (maxSteps := 2000000) (disch := decide) only [↓ss_nil, ↓ss_cons, ↓FL.then_nx, ↓FL.then_rt, ↓FL.then_bk, ↓FL.then_ct, ↓retW_nx, ↓retW_rt, ↓s_expr, ↓s_ret, ↓s_retN, ↓s_set, ↓s_setc, ↓s_setix, ↓s_iff, ↓s_for, ↓s_brk, ↓s_cont, ↓s_pass, ↓v_var, ↓varD_some, ↓v_int, ↓v_str, ↓v_bl, ↓v_non, ↓v_op2, ↓v_cmp, ↓v_neg, ↓v_nt, ↓v_and, ↓v_or, ↓and1, ↓or1, ↓and2, ↓or2, ↓andT1, ↓orT1, ↓andT2, ↓orT2, ↓v_ife, ↓l_nil, ↓l_cons, ↓v_tup, ↓v_lst, ↓v_ix, ↓o_no, ↓o_yes, ↓inD1_int, ↓v_sl, ↓v_bc, ↓v_isi, ↓v_call, ↓v_app, ↓v_comp, ↓v_sortk, ↓v_sortl, ↓t_cmp, ↓t_nt, ↓t_and, ↓t_or, ↓t_var, ↓t_bl, ↓t_isi, ↓t_call, ↓blD_bl, ↓trD_bl, ↓itD_some, ↓i_seq, ↓i_enum, ↓i_rng1, ↓vO_some, ↓add_ii, ↓sub_ii, ↓lt_ii, ↓le_ii, ↓gt_ii, ↓ge_ii, ↓eq_ii, ↓abs_i, ↓int_i, ↓max_ii, ↓min_ii, ↓neg_i, ↓setW_some, ↓mul_ii, ↓mod_ii, ↓pow_ii, ↓div_ii, ↓reduceIte, and_self, ↓len_tup, List.getElem?_cons_zero, List.getElem?_cons_succ, List.set_cons_zero, List.set_cons_succ, tT14_1, tT14_2, tT14_5, tT14_13, ↓ix_tup atI_0, ↓ix_tup atI_1]
    refine vC.mono (merged_sat ho' ht' lo2 lt2) fun r h9 ⟨er, k9, e9⟩ => ?_
    subst er e9
    try simp (maxSteps := 2000000) (disch := decide) only [↓ss_nil, ↓ss_cons, ↓FL.then_nx, ↓FL.then_rt, ↓FL.then_bk, ↓FL.then_ct, ↓retW_nx, ↓retW_rt, ↓s_expr, ↓s_ret, ↓s_retN, ↓s_set, ↓s_setc, ↓s_setix, ↓s_iff, ↓s_for, ↓s_brk, ↓s_cont, ↓s_pass, ↓v_var, ↓varD_some, ↓v_int, ↓v_str, ↓v_bl, ↓v_non, ↓v_op2, ↓v_cmp, ↓v_neg, ↓v_nt, ↓v_and, ↓v_or, ↓and1, ↓or1, ↓and2, ↓or2, ↓andT1, ↓orT1, ↓andT2, ↓orT2, ↓v_ife, ↓l_nil, ↓l_cons, ↓v_tup, ↓v_lst, ↓v_ix, ↓o_no, ↓o_yes, ↓inD1_int, ↓v_sl, ↓v_bc, ↓v_isi, ↓v_call, ↓v_app, ↓v_comp, ↓v_sortk, ↓v_sortl, ↓t_cmp, ↓t_nt, ↓t_and, ↓t_or, ↓t_var, ↓t_bl, ↓t_isi, ↓t_call, ↓blD_bl, ↓trD_bl, ↓itD_some, ↓i_seq, ↓i_enum, ↓i_rng1, ↓vO_some, ↓add_ii, ↓sub_ii, ↓lt_ii, ↓le_ii, ↓gt_ii, ↓ge_ii, ↓eq_ii, ↓abs_i, ↓int_i, ↓max_ii, ↓min_ii, ↓neg_i, ↓setW_some, ↓mul_ii, ↓mod_ii, ↓pow_ii, ↓div_ii, ↓reduceIte, and_self, ↓len_tup, List.getElem?_cons_zero, List.getElem?_cons_succ, List.set_cons_zero, List.set_cons_succ, tT14_1, tT14_2, tT14_5, tT14_13, ↓ix_tup atI_0, ↓ix_tup atI_1]
    refine ⟨len_le (a := 2) (by decide) rfl, ?_⟩
    refine vC.mono (due_sat ho' ht' lo2 lt2) fun r hA ⟨er, kA, eA⟩ => ?_
    subst er eA
    have told : D.tup [.tup (prs o t'), if (prs o t').isEmpty = true then .tup (mrg o t') else .non] = dueD o t' (mrg o t') := by
      unfold dueD
      split
      · rename_i z
        rw [List.isEmpty_iff.mp z]
      · rfl
    rw [told]
    refine pair_v ho' ht' lo2 lt2 fun k => ?_
    refine trD_bl.mpr ?_
    simp (maxSteps := 2000000) (disch := decide) only [↓ss_nil, ↓ss_cons, ↓FL.then_nx, ↓FL.then_rt, ↓FL.then_bk, ↓FL.then_ct, ↓retW_nx, ↓retW_rt, ↓s_expr, ↓s_ret, ↓s_retN, ↓s_set, ↓s_setc, ↓s_setix, ↓s_iff, ↓s_for, ↓s_brk, ↓s_cont, ↓s_pass, ↓v_var, ↓varD_some, ↓v_int, ↓v_str, ↓v_bl, ↓v_non, ↓v_op2, ↓v_cmp, ↓v_neg, ↓v_nt, ↓v_and, ↓v_or, ↓and1, ↓or1, ↓and2, ↓or2, ↓andT1, ↓orT1, ↓andT2, ↓orT2, ↓v_ife, ↓l_nil, ↓l_cons, ↓v_tup, ↓v_lst, ↓v_ix, ↓o_no, ↓o_yes, ↓inD1_int, ↓v_sl, ↓v_bc, ↓v_isi, ↓v_call, ↓v_app, ↓v_comp, ↓v_sortk, ↓v_sortl, ↓t_cmp, ↓t_nt, ↓t_and, ↓t_or, ↓t_var, ↓t_bl, ↓t_isi, ↓t_call, ↓blD_bl, ↓trD_bl, ↓itD_some, ↓i_seq, ↓i_enum, ↓i_rng1, ↓vO_some, ↓add_ii, ↓sub_ii, ↓lt_ii, ↓le_ii, ↓gt_ii, ↓ge_ii, ↓eq_ii, ↓abs_i, ↓int_i, ↓max_ii, ↓min_ii, ↓neg_i, ↓setW_some, ↓mul_ii, ↓mod_ii, ↓pow_ii, ↓div_ii, ↓reduceIte, and_self, ↓len_tup, List.getElem?_cons_zero, List.getElem?_cons_succ, List.set_cons_zero, List.set_cons_succ, Bool.not_true, Bool.false_eq_true]
    exact ⟨app_at (app_at (app_at (app_at eh))), _, _, rfl⟩
  · subst eτ
    first | trivial | (simp (maxSteps := 2000000) (disch := decide) only [↓ss_nil, ↓ss_cons, ↓FL.then_nx, ↓FL.then_rt, ↓FL.then_bk, ↓FL.then_ct, ↓retW_nx, ↓retW_rt, ↓s_expr, ↓s_ret, ↓s_retN, ↓s_set, ↓s_setc, ↓s_setix, ↓s_iff, ↓s_for, ↓s_brk, ↓s_cont, ↓s_pass, ↓v_var, ↓varD_some, ↓v_int, ↓v_str, ↓v_bl, ↓v_non, ↓v_op2, ↓v_cmp, ↓v_neg, ↓v_nt, ↓v_and, ↓v_or, ↓and1, ↓or1, ↓and2, ↓or2, ↓andT1, ↓orT1, ↓andT2, ↓orT2, ↓v_ife, ↓l_nil, ↓l_cons, ↓v_tup, ↓v_lst, ↓v_ix, ↓o_no, ↓o_yes, ↓inD1_int, ↓v_sl, ↓v_bc, ↓v_isi, ↓v_call, ↓v_app, ↓v_comp, ↓v_sortk, ↓v_sortl, ↓t_cmp, ↓t_nt, ↓t_and, ↓t_or, ↓t_var, ↓t_bl, ↓t_isi, ↓t_call, ↓blD_bl, ↓trD_bl, ↓itD_some, ↓i_seq, ↓i_enum, ↓i_rng1, ↓vO_some, ↓add_ii, ↓sub_ii, ↓lt_ii, ↓le_ii, ↓gt_ii, ↓ge_ii, ↓eq_ii, ↓abs_i, ↓int_i, ↓max_ii, ↓min_ii, ↓neg_i, ↓setW_some, ↓mul_ii, ↓mod_ii, ↓pow_ii, ↓div_ii, ↓reduceIte, and_self, ↓len_tup, List.getElem?_cons_zero, List.getElem?_cons_succ, List.set_cons_zero, List.set_cons_succ]; done) | skip
theorem law_ok (ns : List Int) (d : D) (h : Hd) (hn : ns.length ≤ 63) (S : ScriptD (ns.map D.int) d h) : ∃ h', fF14 [d] h = .ok (.bl true) h' := by
  have z := law_sat ns d h hn S
  cases e : fF14 [d] h with
  | ok r h' => rw [e] at z; exact ⟨h', by rw [show r = D.bl true from z]⟩
  | ex x h' => rw [e] at z; exact z.elim
  | bad => rw [e] at z; exact z.elim
end DL

theorem PySem.Challenge.cw_sameshape_k74_clashes_and_merged_edits_holds : PySem.Challenge.rw_sameshape_k74_clashes_and_merged_edits.Holds :=
  DL.hEnd fun ns d h hn S => DL.law_ok ns d h hn S
