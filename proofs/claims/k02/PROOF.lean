import PyProof.Rows.All
import Wide.All
import OpenK.AllK
import Wide.FinOn
import HandS.ForMost
import HandS.TupAny
import HandS.Zip
import HandS.IsInst
import HandS.Wide
import HandS.Walk
import KE.GoesNew
import PySem.Challenge.RW_whatwas_k02_acts_of_processes
set_option Elab.async false
set_option linter.all false
set_option maxRecDepth 100000
set_option maxHeartbeats 2000000
/-! DCore: values and stores of a small machine over the hand layer; what stands for what. -/
namespace DD
open PySem PySem.Spec PyProof.Rows L2

/-- a value: tuples and lists that nobody changes are values, a list that is changed is a place in the store -/
inductive Val where
  | non | bl (b : Bool) | int (i : Int) | str (x : Str) | tup (l : List Val) | lst (l : List Val) | frz (l : List Val) | ref (i : Nat) | ty (n : String)
inductive Cell where
  | list (l : List Val)
  | dict (l : List (Key × Val))
abbrev Store := List Cell
abbrev Slots := List (Option Val)
/-- the store's places, and the lists that are being made: nothing else knows these -/
structure Pl where
  pl : List Addr
  ex : List Addr
def Pl.has (m : Pl) (a : Addr) : Prop := a ∈ m.pl ∨ a ∈ m.ex

/-- a tuple, tracked and no place of the store, or of the module -/
def TupAt (K : PySem.W.Frag) (m : Pl) (H : Hp) (a : Addr) (xs : List V) : Prop := (Rd H a (.tup xs) ∧ ¬ m.has a) ∨ SqT K (fun _ => none) a xs
theorem TupAt.sq {K : PySem.W.Frag} {m : Pl} {H : Hp} {a : Addr} {xs : List V} (h : TupAt K m H a xs) : SqT K H a xs := by
  rcases h with h | h | h
  · exact .inl h.1
  · rcases h with h | ⟨o, h⟩ <;> cases h
  · exact .inr h
/-- a list that is locked, or of the module -/
def FrzAt (K : PySem.W.Frag) (m : Pl) (H : Hp) (a : Addr) (xs : List V) : Prop := ((∃ o, H a = some (.frz o (.lst xs))) ∧ ¬ m.has a) ∨ SqL K (fun _ => none) a xs
theorem FrzAt.sq {K : PySem.W.Frag} {m : Pl} {H : Hp} {a : Addr} {xs : List V} (h : FrzAt K m H a xs) : SqL K H a xs := by
  rcases h with h | h | h
  · exact .inl (.inr h.1)
  · rcases h with h | ⟨o, h⟩ <;> cases h
  · exact .inr h
mutual
inductive RV (K : PySem.W.Frag) (m : Pl) (H : Hp) : Val → V → Prop
  | non : RV K m H .non .non
  | bl (b : Bool) : RV K m H (.bl b) (.bl b)
  | int (i : Int) : RV K m H (.int i) (.int i)
  | str (x : Str) : RV K m H (.str x) (.str x)
  | tup {a : Addr} {xs : List V} {l : List Val} : TupAt K m H a xs → RVs K m H l xs → RV K m H (.tup l) (.ref a)
  | lst {a : Addr} {xs : List V} {l : List Val} : H a = some (.lst xs) → ¬ m.has a → RVs K m H l xs → RV K m H (.lst l) (.ref a)
  | frz {a : Addr} {xs : List V} {l : List Val} : FrzAt K m H a xs → RVs K m H l xs → RV K m H (.frz l) (.ref a)
  | ref {a : Addr} {i : Nat} : m.pl[i]? = some a → RV K m H (.ref i) (.ref a)
  | ty (n : String) : RV K m H (.ty n) (.ty n)
inductive RVs (K : PySem.W.Frag) (m : Pl) (H : Hp) : List Val → List V → Prop
  | nil : RVs K m H [] []
  | cons {v : Val} {u : V} {l : List Val} {xs : List V} : RV K m H v u → RVs K m H l xs → RVs K m H (v :: l) (u :: xs)
end

/-- the heap has gone on: what is no place of the store stays, the store's places stay and may be more -/
structure Lat (m : Pl) (H : Hp) (m' : Pl) (H' : Hp) : Prop where
  pre : m.pl <+: m'.pl
  fresh : ∀ a ∈ m'.pl, a ∈ m.pl ∨ H a = none
  exs : ∀ a ∈ m'.ex, a ∈ m.ex ∨ H a = none
  keep : ∀ a o, H a = some o → a ∉ m.pl → H' a = some o
  there : ∀ a o, H a = some o → ∃ o', H' a = some o'
theorem Lat.refl {m : Pl} {H : Hp} : Lat m H m H := ⟨List.prefix_refl m.pl, fun _ h => .inl h, fun _ h => .inl h, fun _ _ h _ => h, fun _ o h => ⟨o, h⟩⟩
theorem Lat.back {m m1 : Pl} {H H1 : Hp} (a : Lat m H m1 H1) {x : Addr} (h : H1 x = none) : H x = none := by
  cases q : H x with
  | none => rfl
  | some o =>
    obtain ⟨o', e⟩ := a.there x o q
    rw [h] at e
    cases e
theorem Lat.trans {m m1 m2 : Pl} {H H1 H2 : Hp} (a : Lat m H m1 H1) (b : Lat m1 H1 m2 H2) : Lat m H m2 H2 := by
  refine ⟨a.pre.trans b.pre, fun x hx => ?_, fun x hx => ?_, fun x o e hn => ?_, fun x o e => ?_⟩
  · rcases b.fresh x hx with h | h
    · exact a.fresh x h
    · exact .inr (a.back h)
  · rcases b.exs x hx with h | h
    · exact a.exs x h
    · exact .inr (a.back h)
  · refine b.keep x o (a.keep x o e hn) fun h1 => ?_
    rcases a.fresh x h1 with h | h
    · exact hn h
    · rw [e] at h; cases h
  · obtain ⟨o', e'⟩ := a.there x o e
    exact b.there x o' e'
theorem Lat.out {m m' : Pl} {H H' : Hp} (x : Lat m H m' H') {a : Addr} {o : HO} (e : H a = some o) (hn : ¬ m.has a) : ¬ m'.has a := fun h => by
  rcases h with h | h
  · rcases x.fresh a h with q | q
    · exact hn (.inl q)
    · rw [e] at q; cases q
  · rcases x.exs a h with q | q
    · exact hn (.inr q)
    · rw [e] at q; cases q
theorem Lat.rd {m m' : Pl} {H H' : Hp} (x : Lat m H m' H') {a : Addr} {o : HO} (e : Rd H a o) (hn : ¬ m.has a) : Rd H' a o ∧ ¬ m'.has a := by
  have h0 : a ∉ m.pl := fun h => hn (.inl h)
  rcases e with e | ⟨ob, e⟩
  · exact ⟨.inl (x.keep _ _ e h0), x.out e hn⟩
  · exact ⟨.inr ⟨ob, x.keep _ _ e h0⟩, x.out e hn⟩
theorem Lat.place {m m' : Pl} {H H' : Hp} (x : Lat m H m' H') {i : Nat} {a : Addr} (h : m.pl[i]? = some a) : m'.pl[i]? = some a := by
  obtain ⟨t, e⟩ := x.pre
  rw [← e, List.getElem?_append_left (List.getElem?_eq_some_iff.mp h).1]
  exact h
section
variable {K : PySem.W.Frag} {m m' : Pl} {H H' : Hp}
theorem TupAt.lat (x : Lat m H m' H') {a : Addr} {xs : List V} (h : TupAt K m H a xs) : TupAt K m' H' a xs := by
  rcases h with h | h
  · exact .inl (x.rd h.1 h.2)
  · exact .inr h
theorem FrzAt.lat (x : Lat m H m' H') {a : Addr} {xs : List V} (h : FrzAt K m H a xs) : FrzAt K m' H' a xs := by
  rcases h with ⟨⟨o, h⟩, n⟩ | h
  · exact .inl ⟨⟨o, x.keep _ _ h fun z => n (.inl z)⟩, x.out h n⟩
  · exact .inr h
mutual
theorem RV.lat (x : Lat m H m' H') : ∀ {v : Val} {u : V}, RV K m H v u → RV K m' H' v u
  | _, _, .non => .non
  | _, _, .bl b => .bl b
  | _, _, .int b => .int b
  | _, _, .str b => .str b
  | _, _, .tup h r => .tup (h.lat x) (RVs.lat x r)
  | _, _, .lst h n r => .lst (x.keep _ _ h fun z => n (.inl z)) (x.out h n) (RVs.lat x r)
  | _, _, .frz h r => .frz (h.lat x) (RVs.lat x r)
  | _, _, .ref h => .ref (x.place h)
  | _, _, .ty n => .ty n
theorem RVs.lat (x : Lat m H m' H') : ∀ {l : List Val} {xs : List V}, RVs K m H l xs → RVs K m' H' l xs
  | _, _, .nil => .nil
  | _, _, .cons h r => .cons (RV.lat x h) (RVs.lat x r)
end
theorem RVs.length : ∀ {l : List Val} {xs : List V}, RVs K m H l xs → l.length = xs.length
  | _, _, .nil => rfl
  | _, _, .cons _ r => by rw [List.length_cons, List.length_cons, RVs.length r]
theorem RVs.get : ∀ {l : List Val} {xs : List V} {i : Nat} {v : Val}, RVs K m H l xs → l[i]? = some v → ∃ u, xs[i]? = some u ∧ RV K m H v u
  | _, _, _, _, .nil, e => by simp at e
  | _, _, 0, _, .cons h _, e => by simp at e; subst e; exact ⟨_, rfl, h⟩
  | _, _, i + 1, v, .cons _ r, e => by
    obtain ⟨u, e1, h⟩ := RVs.get (i := i) (v := v) r (by simpa using e)
    exact ⟨u, by simpa using e1, h⟩
theorem RVs.append : ∀ {l k : List Val} {xs ys : List V}, RVs K m H l xs → RVs K m H k ys → RVs K m H (l ++ k) (xs ++ ys)
  | _, _, _, _, .nil, s => s
  | _, _, _, _, .cons h r, s => .cons h (RVs.append r s)
theorem RVs.take : ∀ {l : List Val} {xs : List V} (n : Nat), RVs K m H l xs → RVs K m H (l.take n) (xs.take n)
  | _, _, 0, _ => .nil
  | _, _, _ + 1, .nil => .nil
  | _, _, n + 1, .cons h r => .cons h (RVs.take n r)
theorem RVs.drop : ∀ {l : List Val} {xs : List V} (n : Nat), RVs K m H l xs → RVs K m H (l.drop n) (xs.drop n)
  | _, _, 0, r => r
  | _, _, _ + 1, .nil => .nil
  | _, _, n + 1, .cons _ r => RVs.drop n r
theorem RVs.set {v : Val} {u : V} (h : RV K m H v u) : ∀ {l : List Val} {xs : List V} (i : Nat), RVs K m H l xs → RVs K m H (l.set i v) (xs.set i u)
  | _, _, _, .nil => .nil
  | _, _, 0, .cons _ r => .cons h r
  | _, _, i + 1, .cons q r => .cons q (RVs.set h i r)
theorem RVs.ints : ∀ {ns : List Int} {xs : List V}, RVs K m H (ns.map Val.int) xs → xs = ns.map V.int
  | [], _, .nil => rfl
  | _ :: _, _, .cons (.int _) r => by rw [RVs.ints r]; rfl
theorem RVs.bools : ∀ {ns : List Bool} {xs : List V}, RVs K m H (ns.map Val.bl) xs → xs = ns.map V.bl
  | [], _, .nil => rfl
  | _ :: _, _, .cons (.bl _) r => by rw [RVs.bools r]; rfl
theorem RVs.strs : ∀ {ns : List Str} {xs : List V}, RVs K m H (ns.map Val.str) xs → xs = ns.map V.str
  | [], _, .nil => rfl
  | _ :: _, _, .cons (.str _) r => by rw [RVs.strs r]; rfl
end

/-- .. and what is being made is the same -/
structure Ext (m : Pl) (H : Hp) (m' : Pl) (H' : Hp) : Prop extends Lat m H m' H' where
  exq : m'.ex = m.ex
theorem Ext.refl {m : Pl} {H : Hp} : Ext m H m H := ⟨.refl, rfl⟩
theorem Ext.trans {m m1 m2 : Pl} {H H1 H2 : Hp} (a : Ext m H m1 H1) (b : Ext m1 H1 m2 H2) : Ext m H m2 H2 := ⟨a.toLat.trans b.toLat, b.exq.trans a.exq⟩
section
variable {K : PySem.W.Frag} {m m' : Pl} {H H' : Hp}
theorem TupAt.mono (x : Ext m H m' H') {a : Addr} {xs : List V} (h : TupAt K m H a xs) : TupAt K m' H' a xs := h.lat x.toLat
theorem RV.mono (x : Ext m H m' H') {v : Val} {u : V} (h : RV K m H v u) : RV K m' H' v u := h.lat x.toLat
theorem RVs.mono (x : Ext m H m' H') {l : List Val} {xs : List V} (h : RVs K m H l xs) : RVs K m' H' l xs := h.lat x.toLat
end
/-- a place of the store -/
def RC (K : PySem.W.Frag) (m : Pl) (H : Hp) (a : Addr) : Cell → Prop
  | .list l => ∃ xs, H a = some (.lst xs) ∧ RVs K m H l xs
  | .dict l => ∃ kvs, H a = some (.dK kvs) ∧ l.map (·.1) = kvs.map (·.1) ∧ RVs K m H (l.map (·.2)) (kvs.map (·.2))
theorem RC.lat {K : PySem.W.Frag} {m m' : Pl} {H H' : Hp} (x : Lat m H m' H') {a : Addr} {c : Cell} (ha : H' a = H a) (h : RC K m H a c) : RC K m' H' a c := by
  cases c with
  | list l =>
    obtain ⟨xs, e, r⟩ := h
    exact ⟨xs, ha.trans e, r.lat x⟩
  | dict l =>
    obtain ⟨xs, e, ek, r⟩ := h
    exact ⟨xs, ha.trans e, ek, r.lat x⟩
theorem RC.there {K : PySem.W.Frag} {m : Pl} {H : Hp} {a : Addr} {c : Cell} (h : RC K m H a c) : ∃ o, H a = some o := by
  cases c with
  | list l => obtain ⟨xs, e, r⟩ := h; exact ⟨_, e⟩
  | dict l => obtain ⟨xs, e, r⟩ := h; exact ⟨_, e⟩
structure RS (K : PySem.W.Frag) (m : Pl) (H : Hp) (st : Store) : Prop where
  len : m.pl.length = st.length
  nd : m.pl.Nodup
  cell : ∀ (i : Nat) (a : Addr) (c : Cell), m.pl[i]? = some a → st[i]? = some c → RC K m H a c
  exn : ∀ a ∈ m.ex, a ∉ m.pl
  exo : ∀ a ∈ m.ex, ∃ o, H a = some o
section
variable {K : PySem.W.Frag} {m : Pl} {H : Hp} {st : Store}
theorem RS.there (r : RS K m H st) {a : Addr} (h : m.has a) : ∃ o, H a = some o := by
  rcases h with h | h
  · obtain ⟨i, hi, e⟩ := List.getElem_of_mem h
    have h1 : m.pl[i]? = some a := by rw [List.getElem?_eq_getElem hi, e]
    have h2 : i < st.length := by rw [← r.len]; exact hi
    exact (r.cell i a st[i] h1 (List.getElem?_eq_getElem h2)).there
  · exact r.exo a h
theorem RS.new (r : RS K m H st) {p : Addr} (hp : H p = none) : ¬ m.has p := fun h => by
  obtain ⟨o, e⟩ := r.there h
  rw [hp] at e; cases e
theorem there_upd {H : Hp} {p a : Addr} {o u : HO} (e : H a = some u) : ∃ o', upd H p o a = some o' := by
  by_cases h : a = p
  · exact ⟨o, by rw [h]; exact upd_same⟩
  · exact ⟨u, by rw [upd_ne h]; exact e⟩
/-- a new object that is no place of the store -/
theorem RS.laid (r : RS K m H st) {p : Addr} {o : HO} (hp : H p = none) : Ext m H m (upd H p o) ∧ RS K m (upd H p o) st := by
  have x : Ext m H m (upd H p o) := ⟨⟨List.prefix_refl m.pl, fun _ h => .inl h, fun _ h => .inl h, fun a u e _ => by rw [upd_ne (ne_of_none e hp)]; exact e, fun a u e => there_upd e⟩, rfl⟩
  refine ⟨x, r.len, r.nd, fun i a c h1 h2 => ?_, r.exn, fun a h => ?_⟩
  · refine (r.cell i a c h1 h2).lat x.toLat (upd_ne fun e => ?_)
    subst e
    exact r.new hp (.inl (List.mem_of_getElem? h1))
  · obtain ⟨u, e⟩ := r.exo a h
    exact there_upd e
/-- a new place -/
theorem RS.alloc (r : RS K m H st) {p : Addr} {o : HO} {c : Cell} (hp : H p = none) (hc : Ext m H ⟨m.pl ++ [p], m.ex⟩ (upd H p o) → RC K ⟨m.pl ++ [p], m.ex⟩ (upd H p o) p c) :
    Ext m H ⟨m.pl ++ [p], m.ex⟩ (upd H p o) ∧ RS K ⟨m.pl ++ [p], m.ex⟩ (upd H p o) (st ++ [c]) := by
  have x : Ext m H ⟨m.pl ++ [p], m.ex⟩ (upd H p o) := ⟨⟨List.prefix_append m.pl [p], fun a h => by
    rcases List.mem_append.mp h with h | h
    · exact .inl h
    · right
      rw [List.mem_singleton.mp h]; exact hp, fun _ h => .inl h, fun a u e _ => by rw [upd_ne (ne_of_none e hp)]; exact e, fun a u e => there_upd e⟩, rfl⟩
  refine ⟨x, by show (m.pl ++ [p]).length = _; rw [List.length_append, List.length_append, r.len]; rfl, ?_, fun i a c' h1 h2 => ?_, fun a h h' => ?_, fun a h => ?_⟩
  · show (m.pl ++ [p]).Nodup
    rw [List.nodup_append]
    refine ⟨r.nd, List.nodup_cons.mpr ⟨by simp, List.nodup_nil⟩, fun a ha b hb e => ?_⟩
    rw [List.mem_singleton.mp hb] at e
    subst e
    exact r.new hp (.inl ha)
  · have g1 : (m.pl ++ [p])[i]? = some a := h1
    by_cases hi : i < m.pl.length
    · rw [List.getElem?_append_left hi] at g1
      rw [List.getElem?_append_left (by rw [← r.len]; exact hi)] at h2
      refine (r.cell i a c' g1 h2).lat x.toLat (upd_ne fun e => ?_)
      subst e
      exact r.new hp (.inl (List.mem_of_getElem? g1))
    · rw [List.getElem?_append_right (by omega)] at g1
      rw [List.getElem?_append_right (by rw [← r.len]; omega), ← r.len] at h2
      have hi0 : i - m.pl.length = 0 := by
        have := (List.getElem?_eq_some_iff.mp g1).1
        simp at this; omega
      rw [hi0] at g1 h2
      cases g1; cases h2
      exact hc x
  · rcases List.mem_append.mp (show a ∈ m.pl ++ [p] from h') with z | z
    · exact r.exn a h z
    · rw [List.mem_singleton.mp z] at h
      exact r.new hp (.inr h)
  · obtain ⟨u, e⟩ := r.exo a h
    exact there_upd e
/-- a place is written -/
theorem RS.write (r : RS K m H st) {i : Nat} {a : Addr} {o : HO} {c : Cell} (hi : m.pl[i]? = some a) (hc : Ext m H m (upd H a o) → RC K m (upd H a o) a c) : Ext m H m (upd H a o) ∧ RS K m (upd H a o) (st.set i c) := by
  have ha : a ∈ m.pl := List.mem_of_getElem? hi
  have hl := (List.getElem?_eq_some_iff.mp hi).1
  have x : Ext m H m (upd H a o) := ⟨⟨List.prefix_refl m.pl, fun _ h => .inl h, fun _ h => .inl h, fun b u e hn => by rw [upd_ne (fun e => hn (by rw [e]; exact ha))]; exact e, fun a u e => there_upd e⟩, rfl⟩
  refine ⟨x, by rw [List.length_set]; exact r.len, r.nd, fun j b c' h1 h2 => ?_, r.exn, fun a h => ?_⟩
  · by_cases hj : j = i
    · subst hj
      rw [hi] at h1; cases h1
      rw [List.getElem?_set_self (by rw [← r.len]; exact hl)] at h2
      cases h2
      exact hc x
    · rw [List.getElem?_set_ne (Ne.symm hj)] at h2
      refine (r.cell j b c' h1 h2).lat x.toLat (upd_ne fun e => ?_)
      subst e
      have := (List.getElem_inj r.nd (h₀ := hl) (h₁ := (List.getElem?_eq_some_iff.mp h1).1)).mp (by
        rw [(List.getElem?_eq_some_iff.mp hi).2, (List.getElem?_eq_some_iff.mp h1).2])
      exact hj this.symm
  · obtain ⟨u, e⟩ := r.exo a h
    exact there_upd e
end
/-! ### a list that is being made -/
section
variable {K : PySem.W.Frag} {m : Pl} {H : Hp} {D : Addr} {o : HO}
theorem TupAt.made {a : Addr} {xs : List V} (hD : D ∈ m.ex) (h : TupAt K m H a xs) : TupAt K m (upd H D o) a xs := by
  rcases h with ⟨h, n⟩ | h
  · have ne : a ≠ D := fun e => n (.inr (by rw [e]; exact hD))
    rcases h with h | ⟨ob, h⟩
    · exact .inl ⟨.inl (by rw [upd_ne ne]; exact h), n⟩
    · exact .inl ⟨.inr ⟨ob, by rw [upd_ne ne]; exact h⟩, n⟩
  · exact .inr h
theorem FrzAt.made {a : Addr} {xs : List V} (hD : D ∈ m.ex) (h : FrzAt K m H a xs) : FrzAt K m (upd H D o) a xs := by
  rcases h with ⟨⟨ob, h⟩, n⟩ | h
  · exact .inl ⟨⟨ob, by rw [upd_ne fun e => n (.inr (by rw [e]; exact hD))]; exact h⟩, n⟩
  · exact .inr h
mutual
theorem RV.made (hD : D ∈ m.ex) : ∀ {v : Val} {u : V}, RV K m H v u → RV K m (upd H D o) v u
  | _, _, .non => .non
  | _, _, .bl b => .bl b
  | _, _, .int b => .int b
  | _, _, .str b => .str b
  | _, _, .tup h r => .tup (h.made hD) (RVs.made hD r)
  | _, _, .lst h n r => .lst (by rw [upd_ne fun e => n (.inr (by rw [e]; exact hD))]; exact h) n (RVs.made hD r)
  | _, _, .frz h r => .frz (h.made hD) (RVs.made hD r)
  | _, _, .ref h => .ref h
  | _, _, .ty n => .ty n
theorem RVs.made (hD : D ∈ m.ex) : ∀ {l : List Val} {xs : List V}, RVs K m H l xs → RVs K m (upd H D o) l xs
  | _, _, .nil => .nil
  | _, _, .cons h r => .cons (RV.made hD h) (RVs.made hD r)
end
theorem RS.made {st : Store} (hD : D ∈ m.ex) (r : RS K m H st) : RS K m (upd H D o) st := by
  refine ⟨r.len, r.nd, fun i a c h1 h2 => ?_, r.exn, fun a h => ?_⟩
  · have ne : a ≠ D := fun e => r.exn D hD (by rw [← e]; exact List.mem_of_getElem? h1)
    have q := r.cell i a c h1 h2
    cases c with
    | list l =>
      obtain ⟨xs, e, rr⟩ := q
      exact ⟨xs, by rw [upd_ne ne]; exact e, rr.made hD⟩
    | dict l =>
      obtain ⟨xs, e, ek, rr⟩ := q
      exact ⟨xs, by rw [upd_ne ne]; exact e, ek, rr.made hD⟩
  · obtain ⟨u, e⟩ := r.exo a h
    exact there_upd e
/-- it is begun -/
theorem RS.begun {st : Store} (r : RS K m H st) (hp : H D = none) : Lat m H ⟨m.pl, D :: m.ex⟩ (upd H D o) ∧ RS K ⟨m.pl, D :: m.ex⟩ (upd H D o) st := by
  have x : Lat m H ⟨m.pl, D :: m.ex⟩ (upd H D o) := ⟨List.prefix_refl m.pl, fun _ h => .inl h, fun a h => by
    rcases List.mem_cons.mp h with h | h
    · right; rw [h]; exact hp
    · exact .inl h, fun a u e _ => by rw [upd_ne (ne_of_none e hp)]; exact e, fun a u e => there_upd e⟩
  refine ⟨x, r.len, r.nd, fun i a c h1 h2 => ?_, fun a h h' => ?_, fun a h => ?_⟩
  · refine (r.cell i a c h1 h2).lat x (upd_ne fun e => ?_)
    subst e
    exact r.new hp (.inl (List.mem_of_getElem? h1))
  · rcases List.mem_cons.mp h with e | h
    · rw [e] at h'
      exact r.new hp (.inl h')
    · exact r.exn a h h'
  · rcases List.mem_cons.mp h with e | h
    · exact ⟨o, by rw [e]; exact upd_same⟩
    · obtain ⟨u, e⟩ := r.exo a h
      exact there_upd e
/-- it is done -/
theorem RS.ended {st : Store} {l : List Addr} (r : RS K ⟨m.pl, D :: l⟩ H st) : Lat ⟨m.pl, D :: l⟩ H ⟨m.pl, l⟩ H ∧ RS K ⟨m.pl, l⟩ H st := by
  have x : Lat ⟨m.pl, D :: l⟩ H ⟨m.pl, l⟩ H := ⟨List.prefix_refl m.pl, fun _ h => .inl h, fun a h => .inl (List.mem_cons_of_mem _ h), fun a u e _ => e, fun a u e => ⟨u, e⟩⟩
  exact ⟨x, r.len, r.nd, fun i a c h1 h2 => (r.cell i a c h1 h2).lat x rfl, fun a h => r.exn a (List.mem_cons_of_mem _ h), fun a h => r.exo a (List.mem_cons_of_mem _ h)⟩
/-- it becomes a place -/
theorem has_adopt {p e : List Addr} {a : Addr} : (⟨p ++ [D], e⟩ : Pl).has a ↔ (⟨p, D :: e⟩ : Pl).has a := by
  show (a ∈ p ++ [D] ∨ a ∈ e) ↔ (a ∈ p ∨ a ∈ D :: e)
  rw [List.mem_append, List.mem_singleton, List.mem_cons]
  constructor
  · rintro ((h | h) | h)
    · exact .inl h
    · exact .inr (.inl h)
    · exact .inr (.inr h)
  · rintro (h | h | h)
    · exact .inl (.inl h)
    · exact .inl (.inr h)
    · exact .inr h
theorem TupAt.adopt {p e : List Addr} {a : Addr} {xs : List V} (h : TupAt K ⟨p, D :: e⟩ H a xs) : TupAt K ⟨p ++ [D], e⟩ H a xs := by
  rcases h with ⟨h, n⟩ | h
  · exact .inl ⟨h, fun z => n (has_adopt.mp z)⟩
  · exact .inr h
theorem FrzAt.adopt {p e : List Addr} {a : Addr} {xs : List V} (h : FrzAt K ⟨p, D :: e⟩ H a xs) : FrzAt K ⟨p ++ [D], e⟩ H a xs := by
  rcases h with ⟨h, n⟩ | h
  · exact .inl ⟨h, fun z => n (has_adopt.mp z)⟩
  · exact .inr h
mutual
theorem RV.adopt {p e : List Addr} : ∀ {v : Val} {u : V}, RV K ⟨p, D :: e⟩ H v u → RV K ⟨p ++ [D], e⟩ H v u
  | _, _, .non => .non
  | _, _, .bl b => .bl b
  | _, _, .int b => .int b
  | _, _, .str b => .str b
  | _, _, .tup h r => .tup h.adopt (RVs.adopt r)
  | _, _, .lst h n r => .lst h (fun z => n (has_adopt.mp z)) (RVs.adopt r)
  | _, _, .frz h r => .frz h.adopt (RVs.adopt r)
  | _, _, .ref (i := i) (a := a) h => .ref (by
    have h' : p[i]? = some a := h
    show (p ++ [D])[i]? = some a
    rw [List.getElem?_append_left (List.getElem?_eq_some_iff.mp h').1]
    exact h')
  | _, _, .ty n => .ty n
theorem RVs.adopt {p e : List Addr} : ∀ {l : List Val} {xs : List V}, RVs K ⟨p, D :: e⟩ H l xs → RVs K ⟨p ++ [D], e⟩ H l xs
  | _, _, .nil => .nil
  | _, _, .cons h r => .cons (RV.adopt h) (RVs.adopt r)
end
theorem RS.adopt {st : Store} {p e : List Addr} {us : List V} {l : List Val} (r : RS K ⟨p, D :: e⟩ H st) (hD : H D = some (.lst us)) (v : RVs K ⟨p, D :: e⟩ H l us) (hn : D ∉ e) : RS K ⟨p ++ [D], e⟩ H (st ++ [.list l]) := by
  have hp : D ∉ p := r.exn D List.mem_cons_self
  refine ⟨?_, ?_, fun i a c h1 h2 => ?_, fun a h h' => ?_, fun a h => r.exo a (List.mem_cons_of_mem _ h)⟩
  · have := r.len
    show (p ++ [D]).length = _
    rw [List.length_append, List.length_append]
    exact congrArg (· + 1) this
  · show (p ++ [D]).Nodup
    rw [List.nodup_append]
    refine ⟨r.nd, List.nodup_cons.mpr ⟨by simp, List.nodup_nil⟩, fun a ha b hb e => ?_⟩
    rw [List.mem_singleton.mp hb] at e
    subst e
    exact hp ha
  · have g1 : (p ++ [D])[i]? = some a := h1
    have hlen : p.length = st.length := r.len
    by_cases hi : i < p.length
    · rw [List.getElem?_append_left hi] at g1
      rw [List.getElem?_append_left (by rw [← hlen]; exact hi)] at h2
      have q := r.cell i a c g1 h2
      cases c with
      | list l => obtain ⟨xs, e, rr⟩ := q; exact ⟨xs, e, rr.adopt⟩
      | dict l => obtain ⟨xs, e, ek, rr⟩ := q; exact ⟨xs, e, ek, rr.adopt⟩
    · rw [List.getElem?_append_right (by omega)] at g1
      rw [List.getElem?_append_right (by rw [← hlen]; omega), ← hlen] at h2
      have hi0 : i - p.length = 0 := by
        have := (List.getElem?_eq_some_iff.mp g1).1
        simp at this; omega
      rw [hi0] at g1 h2
      cases g1; cases h2
      exact ⟨us, hD, v.adopt⟩
  · rcases List.mem_append.mp (show a ∈ p ++ [D] from h') with z | z
    · exact r.exn a (List.mem_cons_of_mem _ h) z
    · rw [List.mem_singleton.mp z] at h
      exact hn h
end

/-- the slots -/
structure RE (K : PySem.W.Frag) (m : Pl) (H : Hp) (env : Slots) (σ : L2.St) : Prop where
  len : env.length = σ.length
  get : ∀ (i : Nat) (v : Val), env[i]? = some (some v) → ∃ u, σ[i]? = some (some u) ∧ RV K m H v u
section
variable {K : PySem.W.Frag} {m m' : Pl} {H H' : Hp} {env : Slots} {σ : L2.St}
theorem RE.lat (x : Lat m H m' H') (r : RE K m H env σ) : RE K m' H' env σ := ⟨r.len, fun i v e => by
  obtain ⟨u, e1, h⟩ := r.get i v e
  exact ⟨u, e1, h.lat x⟩⟩
theorem RE.mono (x : Ext m H m' H') (r : RE K m H env σ) : RE K m' H' env σ := r.lat x.toLat
theorem RE.set (r : RE K m H env σ) {i : Nat} {v : Val} {u : V} (h : RV K m H v u) : RE K m H (env.set i (some v)) (σ.set i (some u)) := by
  refine ⟨by rw [List.length_set, List.length_set]; exact r.len, fun j w e => ?_⟩
  by_cases hj : i = j
  · subst hj
    by_cases hl : i < env.length
    · rw [List.getElem?_set_self hl] at e
      cases e
      exact ⟨u, List.getElem?_set_self (by rw [← r.len]; exact hl), h⟩
    · rw [List.getElem?_eq_none (by rw [List.length_set]; omega)] at e
      cases e
  · rw [List.getElem?_set_ne hj] at e
    rw [List.getElem?_set_ne hj]
    exact r.get j w e
/-- the slots of a comprehension's own names forgotten -/
def wipeE (env : Slots) : List Nat → Slots
  | [] => env
  | v :: vs => (wipeE env vs).set v none
theorem wipeE_length (env : Slots) : ∀ vs : List Nat, (wipeE env vs).length = env.length
  | [] => rfl
  | v :: vs => by unfold wipeE; rw [List.length_set, wipeE_length env vs]
theorem RE.wipe (r : RE K m H env σ) : ∀ vs : List Nat, RE K m H (wipeE env vs) (wipe σ vs)
  | [] => r
  | v :: vs => by
    have ih := RE.wipe r vs
    refine ⟨by rw [wipeE_length, wipe_length]; exact r.len, fun j w e => ?_⟩
    unfold wipeE at e
    by_cases hj : v = j
    · subst hj
      by_cases hl : v < (wipeE env vs).length
      · rw [List.getElem?_set_self hl] at e; cases e
      · rw [List.getElem?_eq_none (by rw [List.length_set]; omega)] at e; cases e
    · rw [List.getElem?_set_ne hj] at e
      unfold L2.wipe
      rw [List.getElem?_set_ne hj]
      exact ih.get j w e
end
end DD

set_option Elab.async false
set_option linter.all false
set_option maxRecDepth 100000
set_option maxHeartbeats 2000000
/-! DExp: what an expression of the text gives, by a function of slots and store. -/
namespace DD
open PySem PySem.Spec PyProof.Rows L2

/-- what is known of the place where a text stands -/
structure SC where
  P : Program
  w : World
  K : PySem.W.Frag
  mg : Str → Option Value
  base : Heap
  N : List Str
  sc : Scope
  as : Str → Bool
  k : Nat
  nd : N.Nodup
structure Cov (S : SC) (X : Cx) : Prop where
  prog : X.prog = S.P
  w : X.w = S.w
  K : X.K = S.K
  mg : X.mg = S.mg
  base : X.base = S.base
  N : X.N = S.N
  sc : X.env.scope = S.sc
  calm : X.calm = true
  room : Room S.k X.A
  xe : X.xe = fun _ _ => False
  as : ∀ x, S.as x = true → X.fn x = true ∨ X.env.scope.names.lookup x = some .local
theorem Cov.gl {S : SC} {X : Cx} (c : Cov S X) {x : Str} (h : S.sc.names.lookup x = some .globalImplicit) : Gl X x := by
  show X.env.scope.names.lookup x = _
  rw [c.sc]; exact h
theorem Cov.vis {S : SC} {X : Cx} (c : Cov S X) {x : Str} (h : Vis S.sc x) : Vis X.env.scope x := by rw [c.sc]; exact h
theorem Cov.loc {S : SC} {X : Cx} (c : Cov S X) {x : Str} (h : Loc S.sc x) : Loc X.env.scope x := by rw [c.sc]; exact h
theorem Cov.nN {S : SC} {X : Cx} (c : Cov S X) : X.N.Nodup := by rw [c.N]; exact S.nd
theorem Cov.units {S : SC} {X : Cx} (c : Cov S X) : X.A.units + 64 < cLine := c.room.units

/-- the weakest reading of an expression at all places that S covers -/
def wS (S : SC) (e : Expr) : TE := fun σ H Q => ∀ X, Cov S X → ∃ t, PE X e t ∧ t σ H Q
theorem pe_wS {S : SC} {X : Cx} (c : Cov S X) {e : Expr} : PE X e (wS S e) := ⟨fun pins s σ H Q I h => by
  obtain ⟨t, p, q⟩ := h X c
  exact p.run pins s σ H Q I q⟩
abbrev Ev := Slots → Store → Option (Val × Store)
/-- the end that is wanted of a value -/
def Wn (K : PySem.W.Frag) (m : Pl) (H : Hp) (v : Val) (st' : Store) (Q : VK) : Prop := ∀ m' H' u, Ext m H m' H' → RS K m' H' st' → RV K m' H' v u → Q u H'
structure SE (S : SC) (e : Expr) (f : Ev) : Prop where
  run : ∀ env st v st', f env st = some (v, st') → ∀ m σ H, RS S.K m H st → RE S.K m H env σ → ∀ Q, Wn S.K m H v st' Q → wS S e σ H Q
abbrev Et := Slots → Store → Option (Bool × Store)
def wT (S : SC) (e : Expr) : TT := fun σ H Q => ∀ X, Cov S X → ∃ t, PT X e t ∧ t σ H Q
theorem pt_wT {S : SC} {X : Cx} (c : Cov S X) {e : Expr} : PT X e (wT S e) := ⟨fun pins s σ H Q I h => by
  obtain ⟨t, p, q⟩ := h X c
  exact p.run pins s σ H Q I q⟩
def wW (S : SC) (e : Expr) : TT := fun σ H Q => ∀ X, Cov S X → ∃ t, PW X e t ∧ t σ H Q
theorem pw_wW {S : SC} {X : Cx} (c : Cov S X) {e : Expr} : PW X e (wW S e) := ⟨fun whole pins s σ H Q I h => by
  obtain ⟨t, p, q⟩ := h X c
  exact p.run whole pins s σ H Q I q⟩
def Wb (K : PySem.W.Frag) (m : Pl) (H : Hp) (b : Bool) (st' : Store) (Q : Bool → Hp → Prop) : Prop := ∀ m' H', Ext m H m' H' → RS K m' H' st' → Q b H'
structure ST (S : SC) (e : Expr) (f : Et) : Prop where
  run : ∀ env st b st', f env st = some (b, st') → ∀ m σ H, RS S.K m H st → RE S.K m H env σ → ∀ Q, Wb S.K m H b st' Q → wT S e σ H Q
structure SW (S : SC) (e : Expr) (f : Et) : Prop where
  run : ∀ env st b st', f env st = some (b, st') → ∀ m σ H, RS S.K m H st → RE S.K m H env σ → ∀ Q, Wb S.K m H b st' Q → wW S e σ H Q
abbrev Ea := Slots → Store → Option (List Val × Store)
def wA (S : SC) (es : List Expr) : TA := fun σ H Q => ∀ X, Cov S X → ∃ t, PA X es t ∧ t σ H Q
theorem pa_wA {S : SC} {X : Cx} (c : Cov S X) {es : List Expr} : PA X es (wA S es) := ⟨fun pos pins s σ H Q I h => by
  obtain ⟨t, p, q⟩ := h X c
  exact p.run pos pins s σ H Q I q⟩
def Wa (K : PySem.W.Frag) (m : Pl) (H : Hp) (l : List Val) (st' : Store) (Q : List V → Hp → Prop) : Prop := ∀ m' H' us, Ext m H m' H' → RS K m' H' st' → RVs K m' H' l us → Q us H'
structure SA (S : SC) (es : List Expr) (f : Ea) : Prop where
  run : ∀ env st l st', f env st = some (l, st') → ∀ m σ H, RS S.K m H st → RE S.K m H env σ → ∀ Q, Wa S.K m H l st' Q → wA S es σ H Q

section
variable {S : SC} {pos : Pos} {a b c : Expr} {fa fb fc : Ev}

/-! ### names and constants -/
def fVar (i : Nat) : Ev := fun env st => match env[i]? with | some (some v) => some (v, st) | _ => none
def fC (v : Val) : Ev := fun _ st => some (v, st)
theorem se_var (i : Nat) {x : Str} (hN : S.N[i]? = some x) (hv : Vis S.sc x) (hd : (x == ("__debug__" : Str)) = false) (hcd : (x == ("__classdict__" : Str)) = false) : SE S (.Name x pos) (fVar i) := ⟨fun env st v st' e m σ H r re Q q => by
  intro X cv
  refine ⟨_, pe_var (i := i) (by rw [cv.N]; exact hN) (cv.vis hv) hd hcd, ?_⟩
  unfold fVar at e
  cases h : env[i]? with
  | none => rw [h] at e; cases e
  | some o =>
    cases o with
    | none => rw [h] at e; cases e
    | some w =>
      rw [h] at e
      cases e
      obtain ⟨u, e1, hu⟩ := re.get i _ h
      exact ⟨u, e1, q _ _ _ .refl r hu⟩⟩
theorem se_const {e : Expr} {v : Val} {u : V} (hp : ∀ X, Cov S X → PE X e (tC u)) (hv : ∀ m H, RV S.K m H v u) : SE S e (fC v) := ⟨fun env st w st' e1 m σ H r re Q q X cv => by
  cases e1
  exact ⟨_, hp X cv, q _ _ _ .refl r (hv _ _)⟩⟩
theorem se_int {i : Int} {j : Nat} : SE S (.Constant (.int i) j pos) (fC (.int i)) := se_const (fun _ _ => pe_int) fun _ _ => .int i
theorem se_str {x : Str} {j : Nat} : SE S (.Constant (.str x) j pos) (fC (.str x)) := se_const (fun _ _ => pe_str) fun _ _ => .str x
theorem se_bl {x : Bool} {j : Nat} : SE S (.Constant (.bool x) j pos) (fC (.bl x)) := se_const (fun _ _ => pe_bl) fun _ _ => .bl x
theorem se_non {j : Nat} : SE S (.Constant .none j pos) (fC .non) := se_const (fun _ _ => pe_non) fun _ _ => .non
/-- a constant of the module -/
theorem se_glob {x : Str} {v : Val} {u : V} {z : Value} (hg : S.sc.names.lookup x = some .globalImplicit) (hm : S.mg x = some z) (hr : RelV u z) (hv : ∀ m H, RV S.K m H v u) (hd : (x == ("__debug__" : Str)) = false) : SE S (.Name x pos) (fC v) :=
  se_const (fun X cv => pe_glob (cv.gl hg) (by rw [cv.mg]; exact hm) hr hd) hv

/-! ### operators -/
/-- what an operator gives, by values; the store stays -/
abbrev Op2 := Val → Val → Store → Option Val
def OpS (S : SC) (f : Value → Value → Sem Value) (o : Op2) : Prop :=
  ∀ X, Cov S X → ∀ m H st x y z u1 u2, RS S.K m H st → o x y st = some z → RV S.K m H x u1 → RV S.K m H y u2 → ∀ Q : VK, Wn S.K m H z st Q → ∃ r, OpR X f r ∧ r u1 u2 H Q
def rW (X : Cx) (f : Value → Value → Sem Value) : R2 := fun x y H Q => ∃ r, OpR X f r ∧ r x y H Q
theorem op_rW {X : Cx} {f : Value → Value → Sem Value} : OpR X f (rW X f) := fun pins s σ H x y v u Q I rx ry h => by
  obtain ⟨r, p, q⟩ := h
  exact p pins s σ H x y v u Q I rx ry q
def fBin (o : Op2) (fa fb : Ev) : Ev := fun env st => match fa env st with
  | some (x, s1) => match fb env s1 with
    | some (y, s2) => match o x y s2 with
      | some z => some (z, s2)
      | none => none
    | none => none
  | none => none
theorem fBin_some {o : Op2} {env : Slots} {st st' : Store} {v : Val} (h : fBin o fa fb env st = some (v, st')) : ∃ x s1 y, fa env st = some (x, s1) ∧ fb env s1 = some (y, st') ∧ o x y st' = some v := by
  unfold fBin at h
  cases h1 : fa env st with
  | none => rw [h1] at h; cases h
  | some p =>
    obtain ⟨x, s1⟩ := p
    rw [h1] at h
    simp only at h
    cases h2 : fb env s1 with
    | none => rw [h2] at h; cases h
    | some q =>
      obtain ⟨y, s2⟩ := q
      rw [h2] at h
      simp only at h
      cases h3 : o x y s2 with
      | none => rw [h3] at h; cases h
      | some z =>
        rw [h3] at h
        cases h
        exact ⟨x, s1, y, rfl, h2, h3⟩
/-- both operands, then what follows -/
theorem SE.two (ha : SE S a fa) (hb : SE S b fb) {env : Slots} {st s1 st' : Store} {x y : Val} (h1 : fa env st = some (x, s1)) (h2 : fb env s1 = some (y, st')) {m : Pl} {σ : L2.St} {H : Hp} (r : RS S.K m H st) (re : RE S.K m H env σ)
    {R : V → V → Hp → Prop} (h : ∀ m' H' u1 u2, Ext m H m' H' → RS S.K m' H' st' → RV S.K m' H' x u1 → RV S.K m' H' y u2 → R u1 u2 H') : wS S a σ H fun u1 H1 => wS S b σ H1 fun u2 H2 => R u1 u2 H2 :=
  ha.run env st x s1 h1 m σ H r re _ fun m1 H1 u1 x1 r1 v1 => hb.run env s1 y st' h2 m1 σ H1 r1 (re.mono x1) _ fun m2 H2 u2 x2 r2 v2 => h m2 H2 u1 u2 (x1.trans x2) r2 (v1.mono x2) v2
theorem se_op {op : Operator} {o : Op2} (ho : OpS S (binaryOp op) o) (ha : SE S a fa) (hb : SE S b fb) : SE S (.BinOp a op b pos) (fBin o fa fb) := ⟨fun env st v st' e m σ H r re Q q X cv => by
  obtain ⟨x, s1, y, h1, h2, h3⟩ := fBin_some e
  exact ⟨_, pe_op op_rW (pe_wS cv) (pe_wS cv), ha.two hb h1 h2 r re fun m' H' u1 u2 x1 r1 v1 v2 => ho X cv m' H' st' x y v u1 u2 r1 h3 v1 v2 Q fun m2 H2 u x2 => q m2 H2 u (x1.trans x2)⟩⟩
theorem se_cmp {op : CmpOp} {o : Op2} (ho : OpS S (compareOp op) o) (ha : SE S a fa) (hb : SE S b fb) (hm : behindInMarks op b = false) : SE S (.Compare a [op] [b] pos) (fBin o fa fb) := ⟨fun env st v st' e m σ H r re Q q X cv => by
  obtain ⟨x, s1, y, h1, h2, h3⟩ := fBin_some e
  exact ⟨_, pe_cmpR op_rW (pe_wS cv) (pe_wS cv) hm, ha.two hb h1 h2 r re fun m' H' u1 u2 x1 r1 v1 v2 => ho X cv m' H' st' x y v u1 u2 r1 h3 v1 v2 Q fun m2 H2 u x2 => q m2 H2 u (x1.trans x2)⟩⟩
/-- a test by a value that is a bool -/
def tV (f : Ev) : Et := fun env st => match f env st with
  | some (.bl b, s) => some (b, s)
  | _ => none
theorem tV_some {f : Ev} {env : Slots} {st st' : Store} {k : Bool} (h : tV f env st = some (k, st')) : f env st = some (.bl k, st') := by
  unfold tV at h
  split at h
  · cases h; assumption
  · cases h
theorem Wb.bl {K : PySem.W.Frag} {m : Pl} {H : Hp} {k : Bool} {st' : Store} {Q : Bool → Hp → Prop} (q : Wb K m H k st' Q) : Wn K m H (.bl k) st' fun u H' => ∃ b, u = .bl b ∧ Q b H' := fun m' H' u x r v => by
  cases v
  exact ⟨k, rfl, q m' H' x r⟩
theorem st_cmp {op : CmpOp} {o : Op2} (ho : OpS S (compareOp op) o) (ha : SE S a fa) (hb : SE S b fb) (hm : behindInMarks op b = false) : ST S (.Compare a [op] [b] pos) (tV (fBin o fa fb)) := ⟨fun env st v st' e m σ H r re Q q X cv => by
  obtain ⟨x, s1, y, h1, h2, h3⟩ := fBin_some (tV_some e)
  exact ⟨_, pt_cmpR op_rW (pe_wS cv) (pe_wS cv) hm, ha.two hb h1 h2 r re fun m' H' u1 u2 x1 r1 v1 v2 => ho X cv m' H' st' x y (.bl v) u1 u2 r1 h3 v1 v2 _ fun m2 H2 u x2 => q.bl m2 H2 u (x1.trans x2)⟩⟩
/-- a value that is a bool, as a test -/
theorem st_val (ha : SE S a fa) (he : ∀ env whole, isTrue a env whole = (do let v ← whole; standAt a.pos; holding [v] (truthy v))) : ST S a (tV fa) := ⟨fun env st v st' e m σ H r re Q q X cv => by
  exact ⟨_, pt_val (pe_wS cv) (he _), ha.run env st _ st' (tV_some e) m σ H r re _ q.bl⟩⟩

/-! ### and, or, not -/
def fAnd (fa fb : Ev) : Ev := fun env st => match fa env st with
  | some (.bl true, s1) => fb env s1
  | some (.bl false, s1) => some (.bl false, s1)
  | _ => none
def fOr (fa fb : Ev) : Ev := fun env st => match fa env st with
  | some (.bl true, s1) => some (.bl true, s1)
  | some (.bl false, s1) => fb env s1
  | _ => none
def fNot (fa : Ev) : Ev := fun env st => match fa env st with
  | some (.bl b, s1) => some (.bl (!b), s1)
  | _ => none
theorem se_one {op : BoolOp} (ha : SE S a fa) : SE S (.BoolOp op [a] pos) fa := ⟨fun env st v st' e m σ H r re Q q X cv => ⟨_, pe_one (pe_wS cv), ha.run env st v st' e m σ H r re Q q⟩⟩
theorem se_and {rest : List Expr} (ha : SE S a fa) (hb : SE S (.BoolOp .And (b :: rest) pos) fb) : SE S (.BoolOp .And (a :: b :: rest) pos) (fAnd fa fb) := ⟨fun env st v st' e m σ H r re Q q X cv => by
  refine ⟨_, pe_and (pe_wS cv) (pe_wS cv), ?_⟩
  unfold fAnd at e
  split at e
  · rename_i s1 h1
    exact ha.run env st _ s1 h1 m σ H r re _ fun m1 H1 u x1 r1 v1 => by
      cases v1
      exact ⟨true, rfl, by
        rw [if_pos rfl]
        exact hb.run env s1 v st' e m1 σ H1 r1 (re.mono x1) Q fun m2 H2 u2 x2 => q m2 H2 u2 (x1.trans x2)⟩
  · rename_i s1 h1
    cases e
    exact ha.run env st _ _ h1 m σ H r re _ fun m1 H1 u x1 r1 v1 => by
      cases v1
      exact ⟨false, rfl, by
        rw [if_neg Bool.false_ne_true]
        exact q m1 H1 _ x1 r1 (.bl false)⟩
  · cases e⟩
theorem se_or {rest : List Expr} (ha : SE S a fa) (hb : SE S (.BoolOp .Or (b :: rest) pos) fb) : SE S (.BoolOp .Or (a :: b :: rest) pos) (fOr fa fb) := ⟨fun env st v st' e m σ H r re Q q X cv => by
  refine ⟨_, pe_or (pe_wS cv) (pe_wS cv), ?_⟩
  unfold fOr at e
  split at e
  · rename_i s1 h1
    cases e
    exact ha.run env st _ _ h1 m σ H r re _ fun m1 H1 u x1 r1 v1 => by
      cases v1
      exact ⟨true, rfl, by
        rw [if_pos rfl]
        exact q m1 H1 _ x1 r1 (.bl true)⟩
  · rename_i s1 h1
    exact ha.run env st _ s1 h1 m σ H r re _ fun m1 H1 u x1 r1 v1 => by
      cases v1
      exact ⟨false, rfl, by
        rw [if_neg Bool.false_ne_true]
        exact hb.run env s1 v st' e m1 σ H1 r1 (re.mono x1) Q fun m2 H2 u2 x2 => q m2 H2 u2 (x1.trans x2)⟩
  · cases e⟩
theorem se_not (ha : SE S a fa) : SE S (.UnaryOp .Not a pos) (fNot fa) := ⟨fun env st v st' e m σ H r re Q q X cv => by
  refine ⟨_, pe_not (pe_wS cv), ?_⟩
  unfold fNot at e
  split at e
  · rename_i k s1 h1
    cases e
    exact ha.run env st _ _ h1 m σ H r re _ fun m1 H1 u x1 r1 v1 => by
      cases v1
      exact ⟨k, rfl, q m1 H1 _ x1 r1 (.bl _)⟩
  · cases e⟩
/-- not x by x's truth -/
def tAnd2 (fa fb : Et) : Et := fun env st => match fa env st with
  | some (true, s1) => fb env s1
  | some (false, s1) => some (false, s1)
  | none => none
def tOr2 (fa fb : Et) : Et := fun env st => match fa env st with
  | some (true, s1) => some (true, s1)
  | some (false, s1) => fb env s1
  | none => none
def tNot2 (fa : Et) : Et := fun env st => match fa env st with
  | some (b, s1) => some (!b, s1)
  | none => none
section
variable {ga gb : Et}
theorem SW.st (h : SW S a ga) : ST S a ga := ⟨fun env st v st' e m σ H r re Q q X cv => ⟨_, (pw_wW cv).pt, h.run env st v st' e m σ H r re Q q⟩⟩
theorem sw_and1 (ha : ST S a ga) : SW S (.BoolOp .And [a] pos) ga := ⟨fun env st v st' e m σ H r re Q q X cv => ⟨_, pw_and1 (pt_wT cv), ha.run env st v st' e m σ H r re Q q⟩⟩
theorem sw_or1 (ha : ST S a ga) : SW S (.BoolOp .Or [a] pos) ga := ⟨fun env st v st' e m σ H r re Q q X cv => ⟨_, pw_or1 (pt_wT cv), ha.run env st v st' e m σ H r re Q q⟩⟩
theorem sw_and {rest : List Expr} (ha : ST S a ga) (hb : SW S (.BoolOp .And (b :: rest) pos) gb) : SW S (.BoolOp .And (a :: b :: rest) pos) (tAnd2 ga gb) := ⟨fun env st v st' e m σ H r re Q q X cv => by
  refine ⟨_, pw_and (pt_wT cv) (pw_wW cv), ?_⟩
  unfold tAnd2 at e
  split at e
  · rename_i s1 h1
    exact ha.run env st _ s1 h1 m σ H r re _ fun m1 H1 x1 r1 => by
      show (if true = true then _ else _)
      rw [if_pos rfl]
      exact hb.run env s1 v st' e m1 σ H1 r1 (re.mono x1) Q fun m2 H2 x2 => q m2 H2 (x1.trans x2)
  · rename_i s1 h1
    cases e
    exact ha.run env st _ _ h1 m σ H r re _ fun m1 H1 x1 r1 => by
      show (if false = true then _ else _)
      rw [if_neg Bool.false_ne_true]
      exact q m1 H1 x1 r1
  · cases e⟩
theorem sw_or {rest : List Expr} (ha : ST S a ga) (hb : SW S (.BoolOp .Or (b :: rest) pos) gb) : SW S (.BoolOp .Or (a :: b :: rest) pos) (tOr2 ga gb) := ⟨fun env st v st' e m σ H r re Q q X cv => by
  refine ⟨_, pw_or (pt_wT cv) (pw_wW cv), ?_⟩
  unfold tOr2 at e
  split at e
  · rename_i s1 h1
    cases e
    exact ha.run env st _ _ h1 m σ H r re _ fun m1 H1 x1 r1 => by
      show (if true = true then _ else _)
      rw [if_pos rfl]
      exact q m1 H1 x1 r1
  · rename_i s1 h1
    exact ha.run env st _ s1 h1 m σ H r re _ fun m1 H1 x1 r1 => by
      show (if false = true then _ else _)
      rw [if_neg Bool.false_ne_true]
      exact hb.run env s1 v st' e m1 σ H1 r1 (re.mono x1) Q fun m2 H2 x2 => q m2 H2 (x1.trans x2)
  · cases e⟩
theorem st_not (ha : ST S a ga) : ST S (.UnaryOp .Not a pos) (tNot2 ga) := ⟨fun env st v st' e m σ H r re Q q X cv => by
  refine ⟨_, pt_not (pt_wT cv), ?_⟩
  unfold tNot2 at e
  split at e
  · rename_i k s1 h1
    cases e
    exact ha.run env st _ _ h1 m σ H r re _ fun m1 H1 x1 r1 => q m1 H1 x1 r1
  · cases e⟩
/-- a if c else b -/
def fIf (gc : Et) (fa fb : Ev) : Ev := fun env st => match gc env st with
  | some (true, s1) => fa env s1
  | some (false, s1) => fb env s1
  | none => none
theorem se_if {gc : Et} (hc : ST S c gc) (ha : SE S a fa) (hb : SE S b fb) : SE S (.IfExp c a b pos) (fIf gc fa fb) := ⟨fun env st v st' e m σ H r re Q q X cv => by
  refine ⟨_, pe_ifExp (pt_wT cv) (pe_wS cv) (pe_wS cv), ?_⟩
  unfold fIf at e
  split at e
  · rename_i s1 h1
    exact hc.run env st _ s1 h1 m σ H r re _ fun m1 H1 x1 r1 => by
      show (if true = true then _ else _)
      rw [if_pos rfl]
      exact ha.run env s1 v st' e m1 σ H1 r1 (re.mono x1) Q fun m2 H2 u x2 => q m2 H2 u (x1.trans x2)
  · rename_i s1 h1
    exact hc.run env st _ s1 h1 m σ H r re _ fun m1 H1 x1 r1 => by
      show (if false = true then _ else _)
      rw [if_neg Bool.false_ne_true]
      exact hb.run env s1 v st' e m1 σ H1 r1 (re.mono x1) Q fun m2 H2 u x2 => q m2 H2 u (x1.trans x2)
  · cases e⟩
end

/-! ### a chain of two comparisons -/
def fChain (o o' : Op2) (fa fb fc : Ev) : Ev := fun env st => match fa env st with
  | some (x, s1) => match fb env s1 with
    | some (y, s2) => match o x y s2 with
      | some (.bl true) => match fc env s2 with
        | some (z, s3) => match o' y z s3 with
          | some w => some (w, s3)
          | none => none
        | none => none
      | some (.bl false) => some (.bl false, s2)
      | _ => none
    | none => none
  | none => none
theorem chain_run {o o' : Op2} {op op' : CmpOp} (ho : OpS S (compareOp op) o) (ho' : OpS S (compareOp op') o') (ha : SE S a fa) (hb : SE S b fb) (hc : SE S c fc) {X : Cx} (cv : Cov S X) {env : Slots} {st st' : Store} {v : Val}
    (e : fChain o o' fa fb fc env st = some (v, st')) {m : Pl} {σ : L2.St} {H : Hp} (r : RS S.K m H st) (re : RE S.K m H env σ) (Q : VK) (q : Wn S.K m H v st' Q) :
    tChain (rW X (compareOp op)) (rW X (compareOp op')) (wS S a) (wS S b) (wS S c) σ H Q := by
  unfold fChain at e
  split at e
  · rename_i x s1 h1
    split at e
    · rename_i y s2 h2
      split at e
      · rename_i h3
        split at e
        · rename_i z s3 h4
          split at e
          · rename_i w h5
            cases e
            exact ha.two hb h1 h2 r re fun m' H' u1 u2 x1 r1 v1 v2 => ho X cv m' H' s2 x y _ u1 u2 r1 h3 v1 v2 _ fun m2 H2 u x2 r2 v => by
              cases v
              refine ⟨true, rfl, ?_⟩
              rw [if_pos rfl]
              exact hc.run env s2 z _ h4 m2 σ H2 r2 (re.mono (x1.trans x2)) _ fun m3 H3 u3 x3 r3 v3 => ho' X cv m3 H3 _ y z v u2 u3 r3 h5 (v2.mono (x2.trans x3)) v3 Q fun m4 H4 u4 x4 => q m4 H4 u4 ((x1.trans x2).trans (x3.trans x4))
          · cases e
        · cases e
      · rename_i h3
        cases e
        exact ha.two hb h1 h2 r re fun m' H' u1 u2 x1 r1 v1 v2 => ho X cv m' H' _ x y _ u1 u2 r1 h3 v1 v2 _ fun m2 H2 u x2 r2 v => by
          cases v
          refine ⟨false, rfl, ?_⟩
          rw [if_neg Bool.false_ne_true]
          exact q m2 H2 _ (x1.trans x2) r2 (.bl false)
      · cases e
    · cases e
  · cases e
theorem se_chain {o o' : Op2} {op op' : CmpOp} (ho : OpS S (compareOp op) o) (ho' : OpS S (compareOp op') o') (ha : SE S a fa) (hb : SE S b fb) (hc : SE S c fc) (hm : lastMarks [op, op'] [b, c] = false) :
    SE S (.Compare a [op, op'] [b, c] pos) (fChain o o' fa fb fc) := ⟨fun env st v st' e m σ H r re Q q X cv =>
  ⟨_, pe_chain op_rW op_rW (pe_wS cv) (pe_wS cv) (pe_wS cv) hm, chain_run ho ho' ha hb hc cv e r re Q q⟩⟩
theorem st_chain {o o' : Op2} {op op' : CmpOp} (ho : OpS S (compareOp op) o) (ho' : OpS S (compareOp op') o') (ha : SE S a fa) (hb : SE S b fb) (hc : SE S c fc) (hm : lastMarks [op, op'] [b, c] = false) :
    ST S (.Compare a [op, op'] [b, c] pos) (tV (fChain o o' fa fb fc)) := ⟨fun env st v st' e m σ H r re Q q X cv =>
  ⟨_, pt_chain op_rW op_rW (pe_wS cv) (pe_wS cv) (pe_wS cv) hm, chain_run ho ho' ha hb hc cv (tV_some e) r re _ q.bl⟩⟩

/-! ### arguments, displays -/
def aNil : Ea := fun _ st => some ([], st)
def aCons (fa : Ev) (fr : Ea) : Ea := fun env st => match fa env st with
  | some (x, s1) => match fr env s1 with
    | some (l, s2) => some (x :: l, s2)
    | none => none
  | none => none
theorem sa_nil : SA S [] aNil := ⟨fun env st v st' e m σ H r re Q q X cv => by
  cases e
  exact ⟨_, pa_nil, q _ _ _ .refl r .nil⟩⟩
theorem sa_cons {es : List Expr} {fr : Ea} (ha : SE S a fa) (hr : SA S es fr) (hs : ∀ env, starEach (a :: es) env = (false, eval a env) :: starEach es env) : SA S (a :: es) (aCons fa fr) := ⟨fun env st v st' e m σ H r re Q q X cv => by
  refine ⟨_, pa_cons (pe_wS cv) (pa_wA cv) (hs _), ?_⟩
  unfold aCons at e
  split at e
  · rename_i x s1 h1
    split at e
    · rename_i l s2 h2
      cases e
      exact ha.run env st x s1 h1 m σ H r re _ fun m1 H1 u1 x1 r1 v1 => hr.run env s1 l _ h2 m1 σ H1 r1 (re.mono x1) _ fun m2 H2 us x2 r2 v2 => q m2 H2 _ (x1.trans x2) r2 (.cons (v1.mono x2) v2)
    · cases e
  · cases e⟩
def fTup (f : Ea) : Ev := fun env st => match f env st with
  | some (l, s1) => if l.length ≤ 4096 then some (.tup l, s1) else none
  | none => none
/-- a new list that nobody will change -/
def fLst (f : Ea) : Ev := fun env st => match f env st with
  | some (l, s1) => if l.length ≤ 4096 then some (.lst l, s1) else none
  | none => none
/-- a new list, a place of the store -/
def fNew (f : Ea) : Ev := fun env st => match f env st with
  | some (l, s1) => if l.length ≤ 4096 then some (.ref s1.length, s1 ++ [.list l]) else none
  | none => none
theorem line4096 {n : Nat} (h : n ≤ 4096) : n ≤ sizeLine := Nat.le_trans h (by decide)
/-- a new tuple, a new list: what stands then -/
theorem RS.tup {K : PySem.W.Frag} {m : Pl} {H : Hp} {st : Store} (r : RS K m H st) {p : Addr} (hp : H p = none) {l : List Val} {us : List V} (v : RVs K m H l us) :
    Ext m H m (upd H p (.tup us)) ∧ RS K m (upd H p (.tup us)) st ∧ RV K m (upd H p (.tup us)) (.tup l) (.ref p) := by
  obtain ⟨x, r'⟩ := r.laid (o := .tup us) hp
  exact ⟨x, r', .tup (.inl ⟨.inl upd_same, r.new hp⟩) (v.mono x)⟩
theorem RS.lst {K : PySem.W.Frag} {m : Pl} {H : Hp} {st : Store} (r : RS K m H st) {p : Addr} (hp : H p = none) {l : List Val} {us : List V} (v : RVs K m H l us) :
    Ext m H m (upd H p (.lst us)) ∧ RS K m (upd H p (.lst us)) st ∧ RV K m (upd H p (.lst us)) (.lst l) (.ref p) := by
  obtain ⟨x, r'⟩ := r.laid (o := .lst us) hp
  exact ⟨x, r', .lst upd_same (r.new hp) (v.mono x)⟩
theorem RS.newL {K : PySem.W.Frag} {m : Pl} {H : Hp} {st : Store} (r : RS K m H st) {p : Addr} (hp : H p = none) {l : List Val} {us : List V} (v : RVs K m H l us) :
    Ext m H ⟨m.pl ++ [p], m.ex⟩ (upd H p (.lst us)) ∧ RS K ⟨m.pl ++ [p], m.ex⟩ (upd H p (.lst us)) (st ++ [.list l]) ∧ RV K ⟨m.pl ++ [p], m.ex⟩ (upd H p (.lst us)) (.ref st.length) (.ref p) := by
  obtain ⟨x', r'⟩ := r.alloc (o := .lst us) (c := .list l) hp fun x => ⟨us, upd_same, v.mono x⟩
  refine ⟨x', r', .ref ?_⟩
  show (m.pl ++ [p])[st.length]? = some p
  rw [← r.len, List.getElem?_append_right (Nat.le_refl _), Nat.sub_self]
  rfl
theorem se_tup {es : List Expr} {f : Ea} {j} (h : SA S es f) : SE S (.Tuple es j pos) (fTup f) := ⟨fun env st v st' e m σ H r re Q q X cv => by
  refine ⟨_, pe_tup (pa_wA cv), ?_⟩
  unfold fTup at e
  split at e
  · rename_i l s1 h1
    split at e
    · rename_i hl
      cases e
      exact h.run env st l _ h1 m σ H r re _ fun m1 H1 us x1 r1 v1 => ⟨by rw [← v1.length]; exact line4096 hl, fun p hp => by
        obtain ⟨x2, r2, v2⟩ := r1.tup hp v1
        exact q _ _ _ (x1.trans x2) r2 v2⟩
    · cases e
  · cases e⟩
theorem se_lst {es : List Expr} {f : Ea} (h : SA S es f) : SE S (.List es pos) (fLst f) := ⟨fun env st v st' e m σ H r re Q q X cv => by
  refine ⟨_, pe_lst (pa_wA cv), ?_⟩
  unfold fLst at e
  split at e
  · rename_i l s1 h1
    split at e
    · rename_i hl
      cases e
      exact h.run env st l _ h1 m σ H r re _ fun m1 H1 us x1 r1 v1 => ⟨by rw [← v1.length]; exact line4096 hl, fun p hp => by
        obtain ⟨x2, r2, v2⟩ := r1.lst hp v1
        exact q _ _ _ (x1.trans x2) r2 v2⟩
    · cases e
  · cases e⟩
theorem se_new {es : List Expr} {f : Ea} (h : SA S es f) : SE S (.List es pos) (fNew f) := ⟨fun env st v st' e m σ H r re Q q X cv => by
  refine ⟨_, pe_lst (pa_wA cv), ?_⟩
  unfold fNew at e
  split at e
  · rename_i l s1 h1
    split at e
    · rename_i hl
      cases e
      exact h.run env st l _ h1 m σ H r re _ fun m1 H1 us x1 r1 v1 => ⟨by rw [← v1.length]; exact line4096 hl, fun p hp => by
        obtain ⟨x2, r2, v2⟩ := r1.newL hp v1
        exact q _ _ _ (x1.trans x2) r2 v2⟩
    · cases e
  · cases e⟩

/-! ### calls of own defs -/
abbrev Fn := List Val → Store → Option (Val × Store)
/-- the promise of a def: it gives what g gives -/
def spM (K : PySem.W.Frag) (g : Fn) : Sp := fun vs H Q _ => ∃ m args st v st', RS K m H st ∧ RVs K m H args vs ∧ g args st = some (v, st') ∧ Wn K m H v st' Q
/-- the def at f keeps it -/
structure Own (S : SC) (x : Str) (g : Fn) : Prop where
  gl : S.sc.names.lookup x = some .globalImplicit
  nd : (x == ("__debug__" : Str)) = false
  ok : ∃ (f : Addr) (fd : FuncData) (ps : List Str), S.mg x = some (.ref f) ∧ PySem.W.keepIn S.K (.ref f) = true ∧ Binds S.K fd ps [] ∧ FnOk S.P S.w S.K S.mg S.base CX0 S.k f fd ps (spM S.K g)
theorem Cov.fn {S : SC} {X : Cx} (c : Cov S X) {k : Nat} {f : Addr} {fd : FuncData} {ps : List Str} {sp : Sp} (F : FnOk S.P S.w S.K S.mg S.base CX0 k f fd ps sp) : FnOk X.prog X.w X.K X.mg X.base CX0 k f fd ps sp := by
  rw [c.prog, c.w, c.K, c.mg, c.base]; exact F
def fCall (g : Fn) (f : Ea) : Ev := fun env st => match f env st with
  | some (l, s1) => g l s1
  | none => none
theorem se_call {x : Str} {p : Pos} {g : Fn} {es : List Expr} {f : Ea} (hf : Own S x g) (h : SA S (a :: es) f) (hs : ∀ env, starEach (a :: es) env = (false, eval a env) :: starEach es env) (hpl : ∀ env, (backTo pos (starEach es env)).any (·.1) = false) :
    SE S (.Call (.Name x p) (a :: es) [] pos) (fCall g f) := ⟨fun env st v st' e m σ H r re Q q X cv => by
  obtain ⟨fa, fd, ps, h1, h2, h3, h4⟩ := hf.ok
  refine ⟨_, pe_call (cv.fn h4) cv.room (cv.gl hf.gl) (by rw [cv.mg]; exact h1) (by rw [cv.K]; exact h2) (by rw [cv.K]; exact h3) .nil pass0 (pa_wA cv) hf.nd (hs _) (hpl _), ?_⟩
  unfold fCall at e
  split at e
  · rename_i l s1 h1
    exact h.run env st l s1 h1 m σ H r re _ fun m1 H1 us x1 r1 v1 => ⟨m1, l, s1, v, st', r1, by rw [List.append_nil]; exact v1, e, fun m2 H2 u x2 => q m2 H2 u (x1.trans x2)⟩
  · cases e⟩
theorem se_call0 {x : Str} {p : Pos} {g : Fn} (hf : Own S x g) : SE S (.Call (.Name x p) [] [] pos) (fCall g aNil) := ⟨fun env st v st' e m σ H r re Q q X cv => by
  obtain ⟨fa, fd, ps, h1, h2, h3, h4⟩ := hf.ok
  refine ⟨_, pe_call0 (cv.fn h4) cv.room (cv.gl hf.gl) (by rw [cv.mg]; exact h1) (by rw [cv.K]; exact h2) (by rw [cv.K]; exact h3) .nil pass0 hf.nd, ?_⟩
  exact ⟨m, [], st, v, st', r, .nil, e, q⟩⟩

/-! ### calls of built-in functions and types -/
def CalS (S : SC) (f : Value) (g : Fn) : Prop := ∀ X, Cov S X → ∀ m H st l v st' us, RS S.K m H st → g l st = some (v, st') → RVs S.K m H l us → ∀ Q : VK, Wn S.K m H v st' Q → ∃ r, CallR X f r ∧ r us H Q
def rC (X : Cx) (f : Value) : List V → Hp → VK → Prop := fun xs H Q => ∃ r, CallR X f r ∧ r xs H Q
theorem call_rC {X : Cx} {f : Value} : CallR X f (rC X f) := fun pins s σ H xs us Q I rs h => by
  obtain ⟨r, p, q⟩ := h
  exact p pins s σ H xs us Q I rs q
structure Blt (S : SC) (x : Str) (f : Value) : Prop where
  gl : S.sc.names.lookup x = some .globalImplicit
  nd : (x == ("__debug__" : Str)) = false
  nn : x ≠ "__name__"
  no : S.mg x = none
  bt : bootBuiltins x = some f
theorem se_builtin {x : Str} {p : Pos} {id : String} {g : Fn} {es : List Expr} {f : Ea} (hf : Blt S x (.builtin id)) (hg : CalS S (.builtin id) g) (h : SA S (a :: es) f) (hs : ∀ env, starEach (a :: es) env = (false, eval a env) :: starEach es env)
    (hpl : ∀ env, (backTo pos (starEach es env)).any (·.1) = false) : SE S (.Call (.Name x p) (a :: es) [] pos) (fCall g f) := ⟨fun env st v st' e m σ H r re Q q X cv => by
  refine ⟨_, pe_callB call_rC (cv.gl hf.gl) (by rw [cv.mg]; exact hf.no) hf.bt (pa_wA cv) hf.nn hf.nd (hs _) (hpl _), ?_⟩
  unfold fCall at e
  split at e
  · rename_i l s1 h1
    exact h.run env st l s1 h1 m σ H r re _ fun m1 H1 us x1 r1 v1 => hg X cv m1 H1 s1 l v st' us r1 e v1 Q fun m2 H2 u x2 => q m2 H2 u (x1.trans x2)
  · cases e⟩
theorem se_type {x : Str} {p : Pos} {T : String} {g : Fn} {es : List Expr} {f : Ea} (hf : Blt S x (.type T)) (hg : CalS S (.type T) g) (h : SA S (a :: es) f) (hs : ∀ env, starEach (a :: es) env = (false, eval a env) :: starEach es env)
    (hpl : ∀ env, (backTo pos (starEach es env)).any (·.1) = false) : SE S (.Call (.Name x p) (a :: es) [] pos) (fCall g f) := ⟨fun env st v st' e m σ H r re Q q X cv => by
  refine ⟨_, pe_callTy call_rC (cv.gl hf.gl) (by rw [cv.mg]; exact hf.no) hf.bt (pa_wA cv) hf.nn hf.nd (hs _) (hpl _), ?_⟩
  unfold fCall at e
  split at e
  · rename_i l s1 h1
    exact h.run env st l s1 h1 m σ H r re _ fun m1 H1 us x1 r1 v1 => hg X cv m1 H1 s1 l v st' us r1 e v1 Q fun m2 H2 u x2 => q m2 H2 u (x1.trans x2)
  · cases e⟩

/-! ### subscripts, slices -/
def IxS (S : SC) (o : Op2) : Prop :=
  ∀ X, Cov S X → ∀ m H st x y z u1 u2, RS S.K m H st → o x y st = some z → RV S.K m H x u1 → RV S.K m H y u2 → ∀ Q : VK, Wn S.K m H z st Q → ∃ r, IxR X r ∧ r u1 u2 H Q
def rX (X : Cx) : R2 := fun x y H Q => ∃ r, IxR X r ∧ r x y H Q
theorem ix_rX {X : Cx} : IxR X (rX X) := fun value slice pins s σ H x y v u Q I rx ry h hs => by
  obtain ⟨r, p, q⟩ := h
  exact p value slice pins s σ H x y v u Q I rx ry q hs
def fIx (o : Op2) (fa fb : Ev) : Ev := fun env st => match fa env st with
  | some (x, s1) => match fb env s1 with
    | some (y, s2) => match o x y s2 with
      | some z => some (z, s2)
      | none => none
    | none => none
  | none => none
theorem se_ix {o : Op2} (ho : IxS S o) (ha : SE S a fa) (hb : SE S b fb) (hs : PlainIx b) : SE S (.Subscript a b pos) (fIx o fa fb) := ⟨fun env st v st' e m σ H r re Q q X cv => by
  refine ⟨_, pe_ix ix_rX (pe_wS cv) (pe_wS cv) hs, ?_⟩
  unfold fIx at e
  split at e
  · rename_i x s1 h1
    split at e
    · rename_i y s2 h2
      split at e
      · rename_i z h3
        cases e
        exact ha.two hb h1 h2 r re fun m' H' u1 u2 x1 r1 v1 v2 => ho X cv m' H' _ x y _ u1 u2 r1 h3 v1 v2 Q fun m2 H2 u x2 => q m2 H2 u (x1.trans x2)
      · cases e
    · cases e
  · cases e⟩
abbrev Eo := Slots → Store → Option (Option Int × Store)
def wO (S : SC) (e : Option Expr) : TO := fun σ H Q => ∀ X, Cov S X → ∃ t, PO X e t ∧ t σ H Q
theorem po_wO {S : SC} {X : Cx} (c : Cov S X) {e : Option Expr} : PO X e (wO S e) := ⟨fun pins s σ H Q I h => by
  obtain ⟨t, p, q⟩ := h X c
  exact p.run pins s σ H Q I q⟩
structure SO (S : SC) (e : Option Expr) (f : Eo) : Prop where
  run : ∀ env st o st', f env st = some (o, st') → ∀ m σ H, RS S.K m H st → RE S.K m H env σ → ∀ Q : Option Int → Hp → Prop, (∀ m' H', Ext m H m' H' → RS S.K m' H' st' → Q o H') → wO S e σ H Q
def oNone : Eo := fun _ st => some (none, st)
def oSome (f : Ev) : Eo := fun env st => match f env st with
  | some (.int i, s) => some (some i, s)
  | _ => none
theorem so_none : SO S none oNone := ⟨fun env st o st' e m σ H r re Q q X cv => by
  cases e
  exact ⟨_, po_none, q _ _ .refl r⟩⟩
theorem so_some (ha : SE S a fa) : SO S (some a) (oSome fa) := ⟨fun env st o st' e m σ H r re Q q X cv => by
  refine ⟨_, po_some (pe_wS cv), ?_⟩
  unfold oSome at e
  split at e
  · rename_i i s h1
    cases e
    exact ha.run env st _ _ h1 m σ H r re _ fun m1 H1 u x1 r1 v1 => by
      cases v1
      exact ⟨i, rfl, q m1 H1 x1 r1⟩
  · cases e⟩
def SlS (S : SC) (o : Val → Option Int → Option Int → Store → Option Val) : Prop :=
  ∀ X, Cov S X → ∀ m H st x lo hi z u1, RS S.K m H st → o x lo hi st = some z → RV S.K m H x u1 → ∀ Q : VK, Wn S.K m H z st Q → ∃ r, SlR X r ∧ r u1 lo hi H Q
def rL (X : Cx) : V → Option Int → Option Int → Hp → VK → Prop := fun x lo hi H Q => ∃ r, SlR X r ∧ r x lo hi H Q
theorem sl_rL {X : Cx} : SlR X (rL X) := fun pins s σ H x v vl vu lo hi sl Q I rx hs p1 p2 h => by
  obtain ⟨r, p, q⟩ := h
  exact p pins s σ H x v vl vu lo hi sl Q I rx hs p1 p2 q
def fSl (o : Val → Option Int → Option Int → Store → Option Val) (fa : Ev) (fl fh : Eo) : Ev := fun env st => match fa env st with
  | some (x, s1) => match fl env s1 with
    | some (lo, s2) => match fh env s2 with
      | some (hi, s3) => match o x lo hi s3 with
        | some z => some (z, s3)
        | none => none
      | none => none
    | none => none
  | none => none
theorem se_slice {o : Val → Option Int → Option Int → Store → Option Val} {lo hi : Option Expr} {fl fh : Eo} {p2 : Pos} (ho : SlS S o) (ha : SE S a fa) (hl : SO S lo fl) (hh : SO S hi fh) : SE S (.Subscript a (.Slice lo hi none p2) pos) (fSl o fa fl fh) := ⟨fun env st v st' e m σ H r re Q q X cv => by
  refine ⟨_, pe_slice sl_rL (pe_wS cv) (po_wO cv) (po_wO cv), ?_⟩
  unfold fSl at e
  split at e
  · rename_i x s1 h1
    split at e
    · rename_i l s2 h2
      split at e
      · rename_i h s3 h3
        split at e
        · rename_i z h4
          cases e
          exact ha.run env st x s1 h1 m σ H r re _ fun m1 H1 u1 x1 r1 v1 => hl.run env s1 l s2 h2 m1 σ H1 r1 (re.mono x1) _ fun m2 H2 x2 r2 => hh.run env s2 h _ h3 m2 σ H2 r2 (re.mono (x1.trans x2)) _ fun m3 H3 x3 r3 =>
            ho X cv m3 H3 _ x l h _ u1 r3 h4 (v1.mono (x2.trans x3)) Q fun m4 H4 u x4 => q m4 H4 u ((x1.trans x2).trans (x3.trans x4))
        · cases e
      · cases e
    · cases e
  · cases e⟩
end
end DD

set_option Elab.async false
set_option linter.all false
set_option maxRecDepth 100000
set_option maxHeartbeats 2000000
/-! DOps: the operators and the built-in calls, by values. -/
namespace DD
open PySem PySem.Spec PyProof.Rows L2
theorem Wn.here {K : PySem.W.Frag} {m : Pl} {H : Hp} {st : Store} {v : Val} {Q : VK} (q : Wn K m H v st Q) (r : RS K m H st) {u : V} (h : RV K m H v u) : Q u H := q m H u .refl r h
section
variable {S : SC}
/-! ### arithmetic -/
def vAdd : Op2
  | .int i, .int j, _ => some (.int (i + j))
  | .str a, .str b, _ => if a.length + b.length ≤ 4096 then some (.str (a ++ b)) else none
  | .tup l, .tup k, _ => if l.length + k.length ≤ 4096 then some (.tup (l ++ k)) else none
  | .lst l, .lst k, _ => if l.length + k.length ≤ 4096 then some (.lst (l ++ k)) else none
  | _, _, _ => none
theorem os_add : OpS S (binaryOp .Add) vAdd := by
  intro X cv m H st x y z u1 u2 r e v1 v2 Q q
  unfold vAdd at e
  split at e
  · cases e; cases v1; cases v2
    exact ⟨_, op_add, _, _, rfl, rfl, q.here r (.int _)⟩
  · split at e
    · rename_i h
      cases e; cases v1; cases v2
      exact ⟨_, op_add_str, _, _, rfl, rfl, line4096 h, q.here r (.str _)⟩
    · cases e
  · split at e
    · rename_i l k h
      cases e
      cases v1 with
      | tup t1 r1 => cases v2 with
        | tup t2 r2 =>
          refine ⟨_, op_catA, _, _, _, _, rfl, rfl, by rw [cv.K]; exact t1.sq, by rw [cv.K]; exact t2.sq, by rw [← r1.length, ← r2.length]; exact line4096 h, fun h0 => ?_, fun h0 h1 => ?_, fun _ _ p hp => ?_⟩
          · subst h0
            cases r1
            exact q.here r (.tup t2 r2)
          · subst h1
            cases r2
            rw [List.append_nil] at q
            exact q.here r (.tup t1 r1)
          · obtain ⟨x2, r', v'⟩ := r.tup hp (r1.append r2)
            exact q _ _ _ x2 r' v'
    · cases e
  · split at e
    · rename_i l k h
      cases e
      cases v1 with
      | lst t1 n1 r1 => cases v2 with
        | lst t2 n2 r2 =>
          refine ⟨_, op_cat, _, _, _, _, rfl, rfl, t1, t2, by rw [← r1.length, ← r2.length]; exact line4096 h, fun p hp => ?_⟩
          obtain ⟨x2, r', v'⟩ := r.lst hp (r1.append r2)
          exact q _ _ _ x2 r' v'
    · cases e
  · cases e
def vSub : Op2
  | .int i, .int j, _ => some (.int (i - j))
  | _, _, _ => none
theorem os_sub : OpS S (binaryOp .Sub) vSub := by
  intro X cv m H st x y z u1 u2 r e v1 v2 Q q
  unfold vSub at e
  split at e
  · cases e; cases v1; cases v2
    exact ⟨_, op_sub, _, _, rfl, rfl, q.here r (.int _)⟩
  · cases e
def vMul : Op2
  | .int i, .int j, _ => if (-(2 ^ 64) < i ∧ i < 2 ^ 64) ∨ (-(2 ^ 64) < j ∧ j < 2 ^ 64) then some (.int (i * j)) else none
  | _, _, _ => none
theorem os_mul : OpS S (binaryOp .Mult) vMul := by
  intro X cv m H st x y z u1 u2 r e v1 v2 Q q
  unfold vMul at e
  split at e
  · split at e
    · rename_i h
      cases e; cases v1; cases v2
      exact ⟨_, op_mul, _, _, rfl, rfl, h, q.here r (.int _)⟩
    · cases e
  · cases e
def vMod : Op2
  | .int i, .int j, _ => if 0 < j then some (.int (i % j)) else none
  | _, _, _ => none
theorem os_mod : OpS S (binaryOp .Mod) vMod := by
  intro X cv m H st x y z u1 u2 r e v1 v2 Q q
  unfold vMod at e
  split at e
  · split at e
    · rename_i h
      cases e; cases v1; cases v2
      exact ⟨_, op_mod, _, _, rfl, rfl, h, q.here r (.int _)⟩
    · cases e
  · cases e
def vFdiv : Op2
  | .int i, .int j, _ => if 0 < j ∧ j < 1073741824 then some (.int (i / j)) else none
  | _, _, _ => none
theorem os_fdiv : OpS S (binaryOp .FloorDiv) vFdiv := by
  intro X cv m H st x y z u1 u2 r e v1 v2 Q q
  unfold vFdiv at e
  split at e
  · split at e
    · rename_i h
      cases e; cases v1; cases v2
      exact ⟨_, op_fdiv, _, _, rfl, rfl, h, q.here r (.int _)⟩
    · cases e
  · cases e
def vPow : Op2
  | .int i, .int j, _ => if 0 ≤ j ∧ j ≤ 1000 ∧ i.natAbs < 2 ^ 64 then some (.int (i ^ j.toNat)) else none
  | _, _, _ => none
theorem os_pow : OpS S (binaryOp .Pow) vPow := by
  intro X cv m H st x y z u1 u2 r e v1 v2 Q q
  unfold vPow at e
  split at e
  · split at e
    · rename_i h
      cases e; cases v1; cases v2
      exact ⟨_, op_pow, _, _, rfl, rfl, ⟨h.1, by omega, h.2.2⟩, q.here r (.int _)⟩
    · cases e
  · cases e
/-! ### comparisons -/
def vLt : Op2
  | .int i, .int j, _ => some (.bl (decide (i < j)))
  | _, _, _ => none
def vLe : Op2
  | .int i, .int j, _ => some (.bl (decide (i ≤ j)))
  | _, _, _ => none
def vGt : Op2
  | .int i, .int j, _ => some (.bl (decide (j < i)))
  | _, _, _ => none
def vGe : Op2
  | .int i, .int j, _ => some (.bl (decide (j ≤ i)))
  | _, _, _ => none
theorem os_lt : OpS S (compareOp .Lt) vLt := by
  intro X cv m H st x y z u1 u2 r e v1 v2 Q q
  unfold vLt at e
  split at e
  · cases e; cases v1; cases v2
    exact ⟨_, op_lt, _, _, rfl, rfl, q.here r (.bl _)⟩
  · cases e
theorem os_le : OpS S (compareOp .LtE) vLe := by
  intro X cv m H st x y z u1 u2 r e v1 v2 Q q
  unfold vLe at e
  split at e
  · cases e; cases v1; cases v2
    exact ⟨_, op_le, _, _, rfl, rfl, q.here r (.bl _)⟩
  · cases e
theorem os_gt : OpS S (compareOp .Gt) vGt := by
  intro X cv m H st x y z u1 u2 r e v1 v2 Q q
  unfold vGt at e
  split at e
  · cases e; cases v1; cases v2
    exact ⟨_, op_gt, _, _, rfl, rfl, q.here r (.bl _)⟩
  · cases e
theorem os_ge : OpS S (compareOp .GtE) vGe := by
  intro X cv m H st x y z u1 u2 r e v1 v2 Q q
  unfold vGe at e
  split at e
  · cases e; cases v1; cases v2
    exact ⟨_, op_ge, _, _, rfl, rfl, q.here r (.bl _)⟩
  · cases e
/-! ### == of data -/
mutual
/-- plain data, with texts of signs that there are -/
def isD : Val → Bool
  | .non | .bl _ | .int _ => true
  | .str x => PyData.strOk x
  | .tup l | .lst l | .frz l => isDs l
  | .ref _ | .ty _ => false
def isDs : List Val → Bool
  | [] => true
  | v :: l => isD v && isDs l
end
mutual
def toP : Val → PyData
  | .bl b => .bool b
  | .int i => .int i
  | .str x => .str x
  | .tup l => .tuple (toPs l)
  | .lst l | .frz l => .list (toPs l)
  | .non | .ref _ | .ty _ => .none
def toPs : List Val → List PyData
  | [] => []
  | v :: l => toP v :: toPs l
end
section
variable {K : PySem.W.Frag} {m : Pl} {H : Hp}
mutual
theorem RV.dp : ∀ {v : Val} {u : V}, isD v = true → RV K m H v u → Dp K H u (toP v)
  | _, _, _, .non => .non
  | _, _, _, .bl b => .bl b
  | _, _, _, .int i => .int i
  | _, _, _, .str x => .str x
  | .tup l, _, h, .tup t r => .tup t.sq (RVs.dp (by unfold isD at h; exact h) r)
  | .lst l, _, h, .lst t _ r => .lst (.inl (.inl t)) (RVs.dp (by unfold isD at h; exact h) r)
  | .frz l, _, h, .frz t r => .lst t.sq (RVs.dp (by unfold isD at h; exact h) r)
  | .ref _, _, h, _ => by unfold isD at h; cases h
  | .ty _, _, h, _ => by unfold isD at h; cases h
theorem RVs.dp : ∀ {l : List Val} {us : List V}, isDs l = true → RVs K m H l us → DpAll K H us (toPs l)
  | [], _, _, .nil => .nil
  | v :: l, _, h, .cons h1 h2 => by
    unfold isDs at h
    rw [Bool.and_eq_true] at h
    exact .cons (RV.dp h.1 h1) (RVs.dp h.2 h2)
end
mutual
theorem canLay_toP : ∀ {v : Val}, isD v = true → (toP v).canLay0 = true
  | .non, _ => by simp only [toP, PyData.canLay0]
  | .bl _, _ => by simp only [toP, PyData.canLay0]
  | .int _, _ => by simp only [toP, PyData.canLay0]
  | .str x, h => by unfold isD at h; simpa only [toP, PyData.canLay0] using h
  | .tup l, h => by unfold isD at h; simpa only [toP, PyData.canLay0] using canLay_toPs h
  | .lst l, h => by unfold isD at h; simpa only [toP, PyData.canLay0] using canLay_toPs h
  | .frz l, h => by unfold isD at h; simpa only [toP, PyData.canLay0] using canLay_toPs h
  | .ref _, h => by unfold isD at h; cases h
  | .ty _, h => by unfold isD at h; cases h
theorem canLay_toPs : ∀ {l : List Val}, isDs l = true → PyData.canLayAll0 (toPs l) = true
  | [], _ => by simp only [toPs, PyData.canLayAll0]
  | v :: l, h => by
    unfold isDs at h
    rw [Bool.and_eq_true] at h
    simp only [toPs, PyData.canLayAll0, Bool.and_eq_true]
    exact ⟨canLay_toP h.1, canLay_toPs h.2⟩
end
end
/-- == -/
def vEqB : Val → Val → Option Bool
  | .int i, .int j => some (decide (i = j))
  | .str a, .str b => some (decide (a = b))
  | .bl a, .bl b => some (decide (a = b))
  | x, y => if isD x = true ∧ isD y = true ∧ (toP x).depth ≤ 64 ∧ (toP y).depth ≤ 64 then some (PyData.eqv (toP x) (toP y)) else none
def vEq : Op2 := fun x y _ => match vEqB x y with
  | some b => some (.bl b)
  | none => none
def vNe : Op2 := fun x y _ => match vEqB x y with
  | some b => some (.bl (!b))
  | none => none
theorem shaped_of {d : PyData} (h : d.canLay0 = true) (hd : d.depth ≤ 64) : SeqAt.shaped d = true := by
  unfold SeqAt.shaped
  rw [h, Bool.true_and]
  exact decide_eq_true hd
theorem os_eq : OpS S (compareOp .Eq) vEq := by
  intro X cv m H st x y z u1 u2 r e v1 v2 Q q
  unfold vEq at e
  split at e
  · rename_i b hb
    cases e
    unfold vEqB at hb
    split at hb
    · cases hb; cases v1; cases v2
      refine ⟨_, op_eq, rfl, ?_⟩
      have := q.here r (.bl _)
      simpa only [V.int.injEq] using this
    · cases hb; cases v1; cases v2
      refine ⟨_, op_eq, rfl, ?_⟩
      have := q.here r (.bl _)
      simpa only [V.str.injEq] using this
    · cases hb; cases v1; cases v2
      refine ⟨_, op_eq, rfl, ?_⟩
      have := q.here r (.bl _)
      simpa only [V.bl.injEq] using this
    · split at hb
      · rename_i h
        cases hb
        exact ⟨_, op_eqD cv.units, _, _, by rw [cv.K]; exact v1.dp h.1, by rw [cv.K]; exact v2.dp h.2.1, shaped_of (canLay_toP h.1) h.2.2.1, shaped_of (canLay_toP h.2.1) h.2.2.2, q.here r (.bl _)⟩
      · cases hb
  · cases e
theorem os_ne : OpS S (compareOp .NotEq) vNe := by
  intro X cv m H st x y z u1 u2 r e v1 v2 Q q
  unfold vNe at e
  split at e
  · rename_i b hb
    cases e
    unfold vEqB at hb
    split at hb
    · cases hb; cases v1; cases v2
      refine ⟨_, op_ne, rfl, ?_⟩
      have := q.here r (.bl _)
      simpa only [V.int.injEq] using this
    · cases hb; cases v1; cases v2
      refine ⟨_, op_ne, rfl, ?_⟩
      have := q.here r (.bl _)
      simpa only [V.str.injEq] using this
    · cases hb; cases v1; cases v2
      refine ⟨_, op_ne, rfl, ?_⟩
      have := q.here r (.bl _)
      simpa only [V.bl.injEq] using this
    · split at hb
      · rename_i h
        cases hb
        exact ⟨_, op_neD cv.units, _, _, by rw [cv.K]; exact v1.dp h.1, by rw [cv.K]; exact v2.dp h.2.1, shaped_of (canLay_toP h.1) h.2.2.1, shaped_of (canLay_toP h.2.1) h.2.2.2, q.here r (.bl _)⟩
      · cases hb
  · cases e
/-! ### is None -/
def isN : Val → Bool
  | .non => true
  | _ => false
def vIs : Op2
  | x, .non, _ => some (.bl (isN x))
  | _, _, _ => none
def vIsnt : Op2
  | x, .non, _ => some (.bl (!isN x))
  | _, _, _ => none
theorem RV.isN {K : PySem.W.Frag} {m : Pl} {H : Hp} {v : Val} {u : V} (h : RV K m H v u) : decide (u = V.non) = DD.isN v := by
  cases h <;> simp [DD.isN]
theorem os_is : OpS S (compareOp .Is) vIs := by
  intro X cv m H st x y z u1 u2 r e v1 v2 Q q
  unfold vIs at e
  split at e
  · cases e; cases v2
    refine ⟨_, op_isN, rfl, ?_⟩
    rw [v1.isN]
    exact q.here r (.bl _)
  · cases e
theorem os_isnt : OpS S (compareOp .IsNot) vIsnt := by
  intro X cv m H st x y z u1 u2 r e v1 v2 Q q
  unfold vIsnt at e
  split at e
  · cases e; cases v2
    refine ⟨_, op_notN, rfl, ?_⟩
    rw [v1.isN]
    exact q.here r (.bl _)
  · cases e
/-! ### in -/
def flat : Val → Bool
  | .non | .bl _ | .int _ | .str _ => true
  | _ => false
def toV : Val → V
  | .bl b => .bl b
  | .int i => .int i
  | .str x => .str x
  | _ => .non
theorem RV.flat {K : PySem.W.Frag} {m : Pl} {H : Hp} {v : Val} {u : V} (h : RV K m H v u) (hf : DD.flat v = true) : u = toV v ∧ flatV u = true := by
  cases h <;> first | exact ⟨rfl, rfl⟩ | cases hf
theorem RVs.flat {K : PySem.W.Frag} {m : Pl} {H : Hp} : ∀ {l : List Val} {us : List V}, RVs K m H l us → l.all DD.flat = true → us = l.map toV ∧ us.all flatV = true
  | _, _, .nil, _ => ⟨rfl, rfl⟩
  | _, _, .cons h r, hf => by
    rw [List.all_cons, Bool.and_eq_true] at hf
    obtain ⟨e1, f1⟩ := h.flat hf.1
    obtain ⟨e2, f2⟩ := RVs.flat r hf.2
    refine ⟨by rw [e1, e2]; rfl, ?_⟩
    rw [List.all_cons, f1, f2]
    rfl
/-- the items of a list or a tuple -/
def itemsOf : Val → Store → Option (List Val)
  | .tup l, _ | .lst l, _ | .frz l, _ => some l
  | .ref i, st => match st[i]? with
    | some (.list l) => some l
    | _ => none
  | _, _ => none
/-- a list or a tuple, as it is read -/
theorem RV.items {K : PySem.W.Frag} {m : Pl} {H : Hp} {st : Store} (r : RS K m H st) {v : Val} {u : V} {l : List Val} (h : RV K m H v u) (e : itemsOf v st = some l) : ∃ a us, u = .ref a ∧ RVs K m H l us ∧ (SqL K H a us ∨ SqT K H a us) := by
  cases h with
  | tup t r => cases e; exact ⟨_, _, rfl, r, .inr t.sq⟩
  | lst t _ r => cases e; exact ⟨_, _, rfl, r, .inl (.inl (.inl t))⟩
  | frz t r => cases e; exact ⟨_, _, rfl, r, .inl t.sq⟩
  | ref h =>
    unfold itemsOf at e
    simp only at e
    split at e
    · rename_i l' hl
      cases e
      obtain ⟨xs, hx, rx⟩ := r.cell _ _ _ h hl
      exact ⟨_, _, rfl, rx, .inl (.inl (.inl hx))⟩
    · cases e
  | _ => cases e
def vInB (x y : Val) (st : Store) : Option Bool := match itemsOf y st with
  | some l => if flat x = true ∧ l.all flat = true then some (inV (toV x) (l.map toV)) else none
  | none => none
def vIn : Op2 := fun x y st => match vInB x y st with
  | some b => some (.bl b)
  | none => none
def vNotIn : Op2 := fun x y st => match vInB x y st with
  | some b => some (.bl (!b))
  | none => none
theorem os_in : OpS S (compareOp .In) vIn := by
  intro X cv m H st x y z u1 u2 r e v1 v2 Q q
  unfold vIn at e
  split at e
  · rename_i b hb
    cases e
    unfold vInB at hb
    split at hb
    · rename_i l hl
      split at hb
      · rename_i hf
        cases hb
        obtain ⟨a, us, rfl, rs, sq⟩ := v2.items r hl
        obtain ⟨e1, f1⟩ := v1.flat hf.1
        obtain ⟨e2, f2⟩ := rs.flat hf.2
        refine ⟨_, op_in_seq, a, us, rfl, by rw [cv.K]; exact sq, f1, f2, ?_⟩
        rw [e1, e2]
        exact q.here r (.bl _)
      · cases hb
    · cases hb
  · cases e
theorem os_notIn : OpS S (compareOp .NotIn) vNotIn := by
  intro X cv m H st x y z u1 u2 r e v1 v2 Q q
  unfold vNotIn at e
  split at e
  · rename_i b hb
    cases e
    unfold vInB at hb
    split at hb
    · rename_i l hl
      split at hb
      · rename_i hf
        cases hb
        obtain ⟨a, us, rfl, rs, sq⟩ := v2.items r hl
        obtain ⟨e1, f1⟩ := v1.flat hf.1
        obtain ⟨e2, f2⟩ := rs.flat hf.2
        refine ⟨_, op_notIn_seq, a, us, rfl, by rw [cv.K]; exact sq, f1, f2, ?_⟩
        rw [e1, e2]
        exact q.here r (.bl _)
      · cases hb
    · cases hb
  · cases e
/-- a sign in a text -/
def vInSB (x y : Val) : Option Bool := match x, y with
  | .str a, .str z => match a.cps.toList with
    | [c] => some (decide (c ∈ z.cps.toList))
    | _ => none
  | _, _ => none
def vInS : Op2 := fun x y _ => match vInSB x y with
  | some b => some (.bl b)
  | none => none
def vNotInS : Op2 := fun x y _ => match vInSB x y with
  | some b => some (.bl (!b))
  | none => none
theorem sign_of {a : Str} {c : Nat} (h : a.cps.toList = [c]) : a = ⟨#[c]⟩ := by
  obtain ⟨⟨l⟩⟩ := a
  simp only at h
  rw [h]
theorem os_inS : OpS S (compareOp .In) vInS := by
  intro X cv m H st x y z u1 u2 r e v1 v2 Q q
  unfold vInS at e
  split at e
  · rename_i b hb
    cases e
    unfold vInSB at hb
    split at hb
    · split at hb
      · rename_i hc
        cases hb; cases v1; cases v2
        exact ⟨_, op_in_sign, _, _, congrArg V.str (sign_of hc), rfl, q.here r (.bl _)⟩
      · cases hb
    · cases hb
  · cases e
theorem os_notInS : OpS S (compareOp .NotIn) vNotInS := by
  intro X cv m H st x y z u1 u2 r e v1 v2 Q q
  unfold vNotInS at e
  split at e
  · rename_i b hb
    cases e
    unfold vInSB at hb
    split at hb
    · split at hb
      · rename_i hc
        cases hb; cases v1; cases v2
        exact ⟨_, op_notIn_sign, _, _, congrArg V.str (sign_of hc), rfl, q.here r (.bl _)⟩
      · cases hb
    · cases hb
  · cases e
/-! ### subscripts, slices -/
def vIx : Op2
  | .str z, .int i, _ => if z.length ≤ 4096 then match atI z.cps.toList i with
    | some c => some (.str ⟨#[c]⟩)
    | none => none
    else none
  | x, .int i, st => match itemsOf x st with
    | some l => atI l i
    | none => none
  | _, _, _ => none
theorem RVs.atI {K : PySem.W.Frag} {m : Pl} {H : Hp} {l : List Val} {us : List V} {i : Int} {v : Val} (r : RVs K m H l us) (e : L2.atI l i = some v) : ∃ u, L2.atI us i = some u ∧ RV K m H v u := by
  unfold L2.atI at e ⊢
  rw [← r.length]
  cases h : ixN l.length i with
  | none => rw [h] at e; cases e
  | some j =>
    rw [h] at e
    exact r.get e
theorem xs_ix : IxS S vIx := by
  intro X cv m H st x y z u1 u2 r e v1 v2 Q q
  unfold vIx at e
  split at e
  · split at e
    · rename_i hz
      split at e
      · rename_i c hc
        cases e; cases v1; cases v2
        exact ⟨_, ix_str, _, _, _, rfl, rfl, line4096 hz, hc, q.here r (.str _)⟩
      · cases e
    · cases e
  · split at e
    · rename_i l hl
      cases v2
      obtain ⟨a, us, rfl, rs, sq⟩ := v1.items r hl
      obtain ⟨u, eu, hu⟩ := rs.atI e
      rcases sq with sq | sq
      · exact ⟨_, ix_list, _, _, _, _, rfl, rfl, by rw [cv.K]; exact sq, eu, q.here r hu⟩
      · exact ⟨_, ix_tup, _, _, _, _, rfl, rfl, by rw [cv.K]; exact sq, eu, q.here r hu⟩
    · cases e
  · cases e
def cutL (l : List Val) (lo hi : Option Int) : List Val := (l.drop (HT.sIx l.length 0 lo)).take (HT.sIx l.length l.length hi - HT.sIx l.length 0 lo)
/-- a cut: of a tuple a tuple, of a list a new list that nobody changes -/
def vSl : Val → Option Int → Option Int → Store → Option Val
  | .tup l, lo, hi, _ => some (.tup (cutL l lo hi))
  | .lst l, lo, hi, _ => some (.lst (cutL l lo hi))
  | .frz l, lo, hi, _ => some (.lst (cutL l lo hi))
  | .ref i, lo, hi, st => match itemsOf (.ref i) st with
    | some l => some (.lst (cutL l lo hi))
    | none => none
  | .str z, lo, hi, _ => if z.length ≤ 4096 then some (.str (cutS z lo hi)) else none
  | _, _, _, _ => none
theorem RVs.cut {K : PySem.W.Frag} {m : Pl} {H : Hp} {l : List Val} {us : List V} (r : RVs K m H l us) (lo hi : Option Int) : RVs K m H (cutL l lo hi) (cutV us lo hi) := by
  unfold cutL cutV
  rw [← r.length]
  exact (r.drop _).take _
theorem cutV_whole {us : List V} {lo hi : Option Int} (h : HT.sIx us.length 0 lo = 0 ∧ HT.sIx us.length us.length hi = us.length) : cutV us lo hi = us := by
  unfold cutV
  rw [h.1, h.2, Nat.sub_zero, List.drop_zero, List.take_length]
theorem cutL_whole {us : List Val} {lo hi : Option Int} (h : HT.sIx us.length 0 lo = 0 ∧ HT.sIx us.length us.length hi = us.length) : cutL us lo hi = us := by
  unfold cutL
  rw [h.1, h.2, Nat.sub_zero, List.drop_zero, List.take_length]
theorem ls_sl : SlS S vSl := by
  intro X cv m H st x lo hi z u1 r e v1 Q q
  unfold vSl at e
  split at e
  · cases e
    cases v1 with
    | tup t r1 =>
      refine ⟨_, sl_tupA, _, _, rfl, by rw [cv.K]; exact t.sq, fun hw => ?_, fun _ p hp => ?_⟩
      · rw [cutL_whole (by rw [r1.length]; exact hw)] at q
        exact q.here r (.tup t r1)
      · obtain ⟨x2, r', v'⟩ := r.tup hp (r1.cut lo hi)
        exact q _ _ _ x2 r' v'
  · cases e
    cases v1 with
    | lst t n r1 =>
      refine ⟨_, sl_list, _, _, rfl, .inl (.inl t), fun p hp => ?_⟩
      obtain ⟨x2, r', v'⟩ := r.lst hp (r1.cut lo hi)
      exact q _ _ _ x2 r' v'
  · cases e
    cases v1 with
    | frz t r1 =>
      refine ⟨_, sl_list, _, _, rfl, by rw [cv.K]; exact t.sq, fun p hp => ?_⟩
      obtain ⟨x2, r', v'⟩ := r.lst hp (r1.cut lo hi)
      exact q _ _ _ x2 r' v'
  · cases v1 with
    | ref h =>
      split at e
      · rename_i l hl
        cases e
        unfold itemsOf at hl
        simp only at hl
        split at hl
        · rename_i l' hl'
          cases hl
          obtain ⟨xs, hx, rx⟩ := r.cell _ _ _ h hl'
          refine ⟨_, sl_list, _, _, rfl, .inl (.inl hx), fun p hp => ?_⟩
          obtain ⟨x2, r', v'⟩ := r.lst hp (rx.cut lo hi)
          exact q _ _ _ x2 r' v'
        · cases hl
      · cases e
  · split at e
    · rename_i hz
      cases e; cases v1
      exact ⟨_, sl_str, _, rfl, line4096 hz, q.here r (.str _)⟩
    · cases e
  · cases e
end
end DD

set_option Elab.async false
set_option linter.all false
set_option maxRecDepth 100000
set_option maxHeartbeats 2000000
/-! DCall: built-in functions and types called, by values. -/
namespace DD
open PySem PySem.Spec PyProof.Rows L2
section
variable {S : SC}
theorem RVs.one {K : PySem.W.Frag} {m : Pl} {H : Hp} {v : Val} {us : List V} (h : RVs K m H [v] us) : ∃ u, us = [u] ∧ RV K m H v u := by
  cases h with
  | cons h r => cases r; exact ⟨_, rfl, h⟩
theorem RVs.two {K : PySem.W.Frag} {m : Pl} {H : Hp} {v w : Val} {us : List V} (h : RVs K m H [v, w] us) : ∃ u z, us = [u, z] ∧ RV K m H v u ∧ RV K m H w z := by
  cases h with
  | cons h r =>
    obtain ⟨z, rfl, h2⟩ := r.one
    exact ⟨_, _, rfl, h, h2⟩
/-- a built-in type's name -/
theorem se_tyname {x : Str} {p : Pos} {n : String} (hf : Blt S x (.type n)) : SE S (.Name x p) (fC (.ty n)) :=
  se_const (fun X cv => pe_bltn (cv.gl hf.gl) (by rw [cv.mg]; exact hf.no) hf.bt (show RelV (.ty n) (.type n) from rfl) hf.nn hf.nd) fun _ _ => .ty n

def gLen : Fn
  | [.str z], st => if z.length ≤ 4096 then some (.int z.length, st) else none
  | [x], st => match itemsOf x st with
    | some l => some (.int l.length, st)
    | none => none
  | _, _ => none
theorem cs_len : CalS S (.builtin "len") gLen := by
  intro X cv m H st l v st' us r e vs Q q
  unfold gLen at e
  split at e
  · split at e
    · rename_i h
      cases e
      obtain ⟨u, rfl, hv⟩ := vs.one
      cases hv
      exact ⟨_, call_len_str, _, rfl, line4096 h, q.here r (.int _)⟩
    · cases e
  · split at e
    · rename_i k hk
      cases e
      obtain ⟨u, rfl, hv⟩ := vs.one
      obtain ⟨a, us, rfl, rs, sq⟩ := hv.items r hk
      refine ⟨_, call_len_seq, a, us, rfl, by rw [cv.K]; exact sq, ?_⟩
      rw [← rs.length]
      exact q.here r (.int _)
    · cases e
  · cases e

def tyOf : Val → Store → Option String
  | .non, _ => some "NoneType"
  | .bl _, _ => some "bool"
  | .int _, _ => some "int"
  | .str _, _ => some "str"
  | .tup _, _ => some "tuple"
  | .lst _, _ | .frz _, _ => some "list"
  | .ref i, st => match st[i]? with
    | some (.list _) => some "list"
    | some (.dict _) => some "dict"
    | none => none
  | .ty _, _ => none
theorem RV.tyx {K : PySem.W.Frag} {m : Pl} {H : Hp} {st : Store} (r : RS K m H st) {v : Val} {u : V} (h : RV K m H v u) {t : String} (e : tyOf v st = some t) : TyX K H u (.type t) := by
  cases h with
  | non => cases e; exact .base .non
  | bl b => cases e; exact .base (.bl b)
  | int i => cases e; exact .base (.int i)
  | str x => cases e; exact .base (.str x)
  | tup h _ =>
    cases e
    rcases h with ⟨h | ⟨o, h⟩, _⟩ | h
    · exact .base (.tup h)
    · exact .fTuple h
    · rcases h with h | ⟨o, its, n, hl, hc, _⟩
      · rcases h with h | ⟨_, h⟩ <;> cases h
      · exact .kTuple hl hc
  | lst h _ _ => cases e; exact .base (.lst h)
  | frz h _ =>
    cases e
    rcases h with ⟨⟨o, h⟩, _⟩ | h
    · exact .base (.frz h)
    · rcases h with h | ⟨o, its, n, hl, hc, _⟩
      · rcases h with h | ⟨_, h⟩ <;> cases h
      · exact .kList hl hc
  | ref h =>
    unfold tyOf at e
    simp only at e
    split at e
    · rename_i l hl
      cases e
      obtain ⟨xs, hx, _⟩ := r.cell _ _ _ h hl
      exact .base (.lst hx)
    · rename_i l hl
      cases e
      obtain ⟨xs, hx, _⟩ := r.cell _ _ _ h hl
      exact .base (.dK hx)
    · cases e
  | ty n => cases e
/-- isinstance(x, T), T a built-in type -/
def gIsi : Fn
  | [x, .ty T], st => match tyOf x st with
    | some t => match kitB t T with
      | some b => some (.bl b, st)
      | none => none
    | none => none
  | _, _ => none
theorem cs_isi : CalS S (.builtin "isinstance") gIsi := by
  intro X cv m H st l v st' us r e vs Q q
  unfold gIsi at e
  split at e
  · split at e
    · rename_i t ht
      split at e
      · rename_i b hb
        cases e
        obtain ⟨u, z, rfl, h1, h2⟩ := vs.two
        cases h2
        exact ⟨_, call_isi, u, _, _, _, b, rfl, .ty _, by rw [cv.K]; exact h1.tyx r ht, kit_ty hb, q.here r (.bl b)⟩
      · cases e
    · cases e
  · cases e

def gInt : Fn
  | [.int i], st => some (.int i, st)
  | [.bl b], st => some (.int (if b then 1 else 0), st)
  | _, _ => none
theorem cs_int : CalS S (.type "int") gInt := by
  intro X cv m H st l v st' us r e vs Q q
  unfold gInt at e
  split at e
  · cases e
    obtain ⟨u, rfl, hv⟩ := vs.one
    cases hv
    exact ⟨_, call_int1, .inl ⟨_, rfl, q.here r (.int _)⟩⟩
  · cases e
    obtain ⟨u, rfl, hv⟩ := vs.one
    cases hv
    exact ⟨_, call_int1, .inr ⟨_, rfl, q.here r (.int _)⟩⟩
  · cases e
def gStr : Fn
  | [.int i], st => if i.natAbs < 10 ^ 400 then some (.str (toString i), st) else none
  | _, _ => none
theorem log_small {n : Nat} (h : n < 10 ^ 400) : n.log2 < 1920 := by
  by_cases h0 : n = 0
  · rw [h0]; decide
  · exact (Nat.log2_lt h0).mpr (Nat.lt_trans h (by decide +kernel))
theorem cs_str : CalS S (.type "str") gStr := by
  intro X cv m H st l v st' us r e vs Q q
  unfold gStr at e
  split at e
  · split at e
    · rename_i h
      cases e
      obtain ⟨u, rfl, hv⟩ := vs.one
      cases hv
      exact ⟨_, call_str_int, _, rfl, log_small h, q.here r (.str _)⟩
    · cases e
  · cases e

def gTuple : Fn
  | [x], st => match itemsOf x st with
    | some l => some (.tup l, st)
    | none => none
  | _, _ => none
theorem cs_tuple : CalS S (.type "tuple") gTuple := by
  intro X cv m H st l v st' us r e vs Q q
  unfold gTuple at e
  split at e
  · split at e
    · rename_i k hk
      cases e
      obtain ⟨u, rfl, hv⟩ := vs.one
      cases hv with
      | tup t rs =>
        cases hk
        exact ⟨_, call_tuple_of, _, _, rfl, .inr ⟨by rw [cv.K]; exact t.sq, q.here r (.tup t rs)⟩⟩
      | lst t n rs =>
        cases hk
        refine ⟨_, call_tuple_of, _, _, rfl, .inl ⟨.inl (.inl t), fun p hp => ?_⟩⟩
        obtain ⟨x2, r', v'⟩ := r.tup hp rs
        exact q _ _ _ x2 r' v'
      | frz t rs =>
        cases hk
        refine ⟨_, call_tuple_of, _, _, rfl, .inl ⟨by rw [cv.K]; exact t.sq, fun p hp => ?_⟩⟩
        obtain ⟨x2, r', v'⟩ := r.tup hp rs
        exact q _ _ _ x2 r' v'
      | ref h =>
        unfold itemsOf at hk
        simp only at hk
        split at hk
        · rename_i l' hl
          cases hk
          obtain ⟨xs, hx, rx⟩ := r.cell _ _ _ h hl
          refine ⟨_, call_tuple_of, _, _, rfl, .inl ⟨.inl (.inl hx), fun p hp => ?_⟩⟩
          obtain ⟨x2, r', v'⟩ := r.tup hp rx
          exact q _ _ _ x2 r' v'
        · cases hk
      | _ => cases hk
    · cases e
  · cases e
/-- list(x), a list that nobody changes -/
def gList : Fn
  | [x], st => match itemsOf x st with
    | some l => some (.lst l, st)
    | none => none
  | _, _ => none
theorem cs_list : CalS S (.type "list") gList := by
  intro X cv m H st l v st' us r e vs Q q
  unfold gList at e
  split at e
  · split at e
    · rename_i k hk
      cases e
      obtain ⟨u, rfl, hv⟩ := vs.one
      obtain ⟨a, us, rfl, rs, sq⟩ := hv.items r hk
      refine ⟨_, call_list_of, a, us, rfl, by rw [cv.K]; exact sq, fun p hp => ?_⟩
      obtain ⟨x2, r', v'⟩ := r.lst hp rs
      exact q _ _ _ x2 r' v'
    · cases e
  · cases e
/-- list(x), a place of the store -/
def gListN : Fn
  | [x], st => match itemsOf x st with
    | some l => some (.ref st.length, st ++ [.list l])
    | none => none
  | _, _ => none
theorem cs_listN : CalS S (.type "list") gListN := by
  intro X cv m H st l v st' us r e vs Q q
  unfold gListN at e
  split at e
  · split at e
    · rename_i k hk
      cases e
      obtain ⟨u, rfl, hv⟩ := vs.one
      obtain ⟨a, us, rfl, rs, sq⟩ := hv.items r hk
      refine ⟨_, call_list_of, a, us, rfl, by rw [cv.K]; exact sq, fun p hp => ?_⟩
      obtain ⟨x2, r', v'⟩ := r.newL hp rs
      exact q _ _ _ x2 r' v'
    · cases e
  · cases e

def blsOf : List Val → Option (List Bool)
  | [] => some []
  | .bl b :: l => match blsOf l with
    | some bs => some (b :: bs)
    | none => none
  | _ :: _ => none
theorem blsOf_eq : ∀ {l : List Val} {bs : List Bool}, blsOf l = some bs → l = bs.map Val.bl
  | [], _, h => by cases h; rfl
  | v :: l, bs, h => by
    cases v with
    | bl b =>
      unfold blsOf at h
      split at h
      · rename_i h1
        cases h
        rw [blsOf_eq h1]
        rfl
      · cases h
    | _ => cases h
/-- all(x), a list of truth values -/
def gAll : Fn
  | [.lst l], st => match blsOf l with
    | some bs => some (.bl (bs.all id), st)
    | none => none
  | _, _ => none
theorem cs_all : CalS S (.builtin "all") gAll := by
  intro X cv m H st l v st' us r e vs Q q
  unfold gAll at e
  split at e
  · split at e
    · rename_i bs hb
      cases e
      obtain ⟨u, rfl, hv⟩ := vs.one
      cases hv with
      | lst t n rs =>
        rw [blsOf_eq hb] at rs
        have e2 := rs.bools
        subst e2
        exact ⟨_, cr_all cv.calm, _, bs, rfl, .inl (.inl t), q.here r (.bl _)⟩
    · cases e
  · cases e
def gAny : Fn
  | [.lst l], st => match blsOf l with
    | some bs => some (.bl (bs.any id), st)
    | none => none
  | _, _ => none
theorem cs_any : CalS S (.builtin "any") gAny := by
  intro X cv m H st l v st' us r e vs Q q
  unfold gAny at e
  split at e
  · split at e
    · rename_i bs hb
      cases e
      obtain ⟨u, rfl, hv⟩ := vs.one
      cases hv with
      | lst t n rs =>
        rw [blsOf_eq hb] at rs
        have e2 := rs.bools
        subst e2
        exact ⟨_, cr_any cv.calm, _, bs, rfl, .inl (.inl t), q.here r (.bl _)⟩
    · cases e
  · cases e
def gMax2 : Fn
  | [.int i, .int j], st => some (.int (if j > i then j else i), st)
  | _, _ => none
theorem cs_max2 : CalS S (.builtin "max") gMax2 := by
  intro X cv m H st l v st' us r e vs Q q
  unfold gMax2 at e
  split at e
  · cases e
    obtain ⟨u, z, rfl, h1, h2⟩ := vs.two
    cases h1; cases h2
    exact ⟨_, call_max2 cv.calm, _, _, rfl, q.here r (.int _)⟩
  · cases e
end
end DD

set_option Elab.async false
set_option linter.all false
set_option maxRecDepth 100000
set_option maxHeartbeats 2000000
/-! DStm: statements, loops, list comprehensions, defs. -/
namespace DD
open PySem PySem.Spec PyProof.Rows L2

/-! ### targets -/
inductive Tg where
  | one (i : Nat)
  | many (l : List Nat)
def Tg.ixs : Tg → List Nat
  | .one i => [i]
  | .many l => l
def sets (env : Slots) : List Nat → List Val → Slots
  | i :: l, v :: vs => sets (env.set i (some v)) l vs
  | _, _ => env
def eT : Tg → Val → Slots → Option Slots
  | .one i, v, env => some (env.set i (some v))
  | .many is, .tup l, env => if l.length = is.length then some (sets env is l) else none
  | _, _, _ => none
def gNames : List Nat → TGs
  | [] => gNil
  | i :: r => gCons (gName i) (gNames r)
def gT (K : PySem.W.Frag) : Tg → TG
  | .one i => gName i
  | .many is => gTup K is.length (gNames is)
theorem wipe_at (σ : L2.St) : ∀ (vs : List Nat) (j : Nat), (wipe σ vs)[j]? = if j ∈ vs then σ[j]?.map (fun _ => none) else σ[j]?
  | [], j => by simp [wipe]
  | v :: vs, j => by
    unfold wipe
    by_cases h : v = j
    · subst h
      rw [if_pos List.mem_cons_self]
      by_cases hl : v < σ.length
      · rw [List.getElem?_set_self (by rw [wipe_length]; exact hl), List.getElem?_eq_getElem hl]
        rfl
      · rw [List.getElem?_eq_none (by rw [List.length_set, wipe_length]; omega), List.getElem?_eq_none (by omega)]
        rfl
    · rw [List.getElem?_set_ne h, wipe_at σ vs j]
      by_cases hm : j ∈ vs
      · rw [if_pos hm, if_pos (List.mem_cons_of_mem _ hm)]
      · rw [if_neg hm, if_neg (fun z => by rcases List.mem_cons.mp z with e | z; exact h e.symm; exact hm z)]
theorem wipe_set {σ : L2.St} {vs : List Nat} {i : Nat} {x : Option V} (h : i ∈ vs) : wipe (σ.set i x) vs = wipe σ vs := by
  apply List.ext_getElem?
  intro j
  rw [wipe_at, wipe_at]
  by_cases hj : j ∈ vs
  · rw [if_pos hj, if_pos hj]
    by_cases e : i = j
    · subst e
      by_cases hl : i < σ.length
      · rw [List.getElem?_set_self hl, List.getElem?_eq_getElem hl]
        rfl
      · rw [List.getElem?_eq_none (by rw [List.length_set]; omega), List.getElem?_eq_none (by omega)]
    · rw [List.getElem?_set_ne e]
  · rw [if_neg hj, if_neg hj, List.getElem?_set_ne fun e => hj (by rw [← e]; exact h)]
section
variable {K : PySem.W.Frag} {m : Pl} {H : Hp}
theorem gNames_run : ∀ {is : List Nat} {l : List Val} {us : List V} {env : Slots} {σ : L2.St}, RE K m H env σ → RVs K m H l us → l.length = is.length → ∀ Q : L2.St → Hp → Prop,
    (∀ σ', RE K m H (sets env is l) σ' → (∀ vs : List Nat, (∀ i ∈ is, i ∈ vs) → wipe σ' vs = wipe σ vs) → Q σ' H) → gNames is us σ H Q
  | [], _, _, env, σ, re, .nil, _, Q, q => ⟨rfl, q σ re fun _ _ => rfl⟩
  | i :: is, _, _, env, σ, re, .cons (v := v) (u := u) h r, hl, Q, q => by
    refine ⟨u, _, rfl, ?_⟩
    show gNames is _ (σ.set i (some u)) H Q
    refine gNames_run (re.set h) r (by simpa using hl) Q fun σ' re' w => q σ' re' fun vs hv => ?_
    rw [w vs fun j hj => hv j (List.mem_cons_of_mem _ hj), wipe_set (hv i List.mem_cons_self)]
theorem gT_run {t : Tg} {v : Val} {u : V} {env env' : Slots} {σ : L2.St} (e : eT t v env = some env') (re : RE K m H env σ) (hv : RV K m H v u) (Q : L2.St → Hp → Prop)
    (q : ∀ σ', RE K m H env' σ' → (∀ vs : List Nat, (∀ i ∈ t.ixs, i ∈ vs) → wipe σ' vs = wipe σ vs) → Q σ' H) : gT K t u σ H Q := by
  cases t with
  | one i =>
    cases e
    exact q _ (re.set hv) fun vs h => wipe_set (h i List.mem_cons_self)
  | many is =>
    unfold eT at e
    cases hv with
    | tup t r =>
      simp only at e
      split at e
      · rename_i hl
        cases e
        exact ⟨_, _, rfl, t.sq, by rw [← r.length]; exact hl, gNames_run re r hl Q q⟩
      · cases e
    | _ => cases e
end
/-- the target of the text -/
def TgS (S : SC) (tg : Expr) (t : Tg) : Prop := ∀ X, Cov S X → PG X tg (gT X.K t)
def TgsS (S : SC) (es : List Expr) (is : List Nat) : Prop := ∀ X, Cov S X → PGs X es (gNames is)
section
variable {S : SC} {pos : Pos}
theorem tg_one (i : Nat) {x : Str} (hi : S.N[i]? = some x) (hx : Loc S.sc x) (ha : S.as x = true) : TgS S (.Name x pos) (.one i) := fun X cv => pg_name cv.nN (by rw [cv.N]; exact hi) (cv.loc hx) (cv.as x ha)
theorem tgs_nil : TgsS S [] [] := fun X cv => pgs_nil
theorem tgs_cons {e : Expr} {es : List Expr} {i : Nat} {is : List Nat} (h : TgS S e (.one i)) (r : TgsS S es is) (hs : ∀ env, (assignEach (e :: es) env).map (·.2) = assign e env :: (assignEach es env).map (·.2)) : TgsS S (e :: es) (i :: is) := fun X cv => pgs_cons (h X cv) (r X cv) (hs _)
theorem tg_many {es : List Expr} {is : List Nat} {k} (h : TgsS S es is) (ha : ∀ env, (assignEach es env).length = is.length) (hb : ∀ env, (assignEach es env).findIdx? (·.1) = none) : TgS S (.Tuple es k pos) (.many is) := fun X cv => pg_tup cv.calm (h X cv) (ha _) (hb _)
end

/-! ### statements -/
inductive Out where
  | nx | rt (v : Val) | bk | ct
abbrev Es := Slots → Store → Option (Out × Slots × Store)
def wSt (S : SC) (st : Stmt) : TS := fun D σ H => ∀ X, Cov S X → ∃ t, PS X st t ∧ t D σ H
theorem ps_wSt {S : SC} {X : Cx} (c : Cov S X) {st : Stmt} : PS X st (wSt S st) := ⟨fun pins s σ H D I h => by
  obtain ⟨t, p, q⟩ := h X c
  exact p.run pins s σ H D I q⟩
def wSs (S : SC) (st : List Stmt) : TS := fun D σ H => ∀ X, Cov S X → ∃ t, PSs X st t ∧ t D σ H
theorem pss_wSs {S : SC} {X : Cx} (c : Cov S X) {st : List Stmt} : PSs X st (wSs S st) := ⟨fun pins s σ H D I h => by
  obtain ⟨t, p, q⟩ := h X c
  exact p.run pins s σ H D I q⟩
def Dn (K : PySem.W.Frag) (m : Pl) (H : Hp) (env : Slots) (D : Ends) : Out → Prop
  | .nx => ∀ σ, RE K m H env σ → D.nx σ H
  | .rt v => ∀ u, RV K m H v u → D.rt u H
  | .bk => ∀ σ, RE K m H env σ → D.bk σ H
  | .ct => ∀ σ, RE K m H env σ → D.ct σ H
def Wx (K : PySem.W.Frag) (m : Pl) (H : Hp) (o : Out) (env : Slots) (st : Store) (D : Ends) : Prop := ∀ m' H', Ext m H m' H' → RS K m' H' st → Dn K m' H' env D o
theorem Wx.ext {K : PySem.W.Frag} {m m' : Pl} {H H' : Hp} {o : Out} {env : Slots} {st : Store} {D : Ends} (w : Wx K m H o env st D) (x : Ext m H m' H') : Wx K m' H' o env st D := fun m2 H2 x2 => w m2 H2 (x.trans x2)
structure SS (S : SC) (st : Stmt) (f : Es) : Prop where
  run : ∀ env s o env' s', f env s = some (o, env', s') → ∀ m σ H, RS S.K m H s → RE S.K m H env σ → ∀ D, Wx S.K m H o env' s' D → wSt S st D σ H
structure SSs (S : SC) (st : List Stmt) (f : Es) : Prop where
  run : ∀ env s o env' s', f env s = some (o, env', s') → ∀ m σ H, RS S.K m H s → RE S.K m H env σ → ∀ D, Wx S.K m H o env' s' D → wSs S st D σ H
def xNil : Es := fun env s => some (.nx, env, s)
def xSeq (f g : Es) : Es := fun env s => match f env s with
  | some (.nx, e1, s1) => g e1 s1
  | r => r
def xSet (t : Tg) (f : Ev) : Es := fun env s => match f env s with
  | some (v, s1) => match eT t v env with
    | some e1 => some (.nx, e1, s1)
    | none => none
  | none => none
def xDrop (f : Ev) : Es := fun env s => match f env s with
  | some (_, s1) => some (.nx, env, s1)
  | none => none
def xRet (f : Ev) : Es := fun env s => match f env s with
  | some (v, s1) => some (.rt v, env, s1)
  | none => none
def xRetN : Es := fun env s => some (.rt .non, env, s)
def xIf (g : Et) (f1 f2 : Es) : Es := fun env s => match g env s with
  | some (true, s1) => f1 env s1
  | some (false, s1) => f2 env s1
  | none => none
section
variable {S : SC} {pos : Pos} {st : Stmt} {rest : List Stmt} {e : Expr} {f g : Es} {fe : Ev}
theorem ssl_nil : SSs S [] xNil := ⟨fun env s o env' s' h m σ H r re D w X cv => by
  cases h
  exact ⟨_, pss_nil, w m H .refl r σ re⟩⟩
theorem ssl_cons (h1 : SS S st f) (h2 : SSs S rest g) : SSs S (st :: rest) (xSeq f g) := ⟨fun env s o env' s' h m σ H r re D w X cv => by
  refine ⟨_, pss_cons (ps_wSt cv) (pss_wSs cv), ?_⟩
  unfold xSeq at h
  cases hf : f env s with
  | none => rw [hf] at h; cases h
  | some p =>
    obtain ⟨o1, e1, s1⟩ := p
    rw [hf] at h
    refine h1.run env s o1 e1 s1 hf m σ H r re _ ?_
    intro m1 H1 x1 r1
    cases o1 with
    | nx => exact fun σ1 re1 => h2.run e1 s1 o env' s' h m1 σ1 H1 r1 re1 D (w.ext x1)
    | rt v =>
      cases h
      exact w m1 H1 x1 r1
    | bk =>
      cases h
      exact w m1 H1 x1 r1
    | ct =>
      cases h
      exact w m1 H1 x1 r1⟩
theorem ssl_one (h1 : SS S st f) : SSs S [st] f := ⟨fun env s o env' s' h m σ H r re D w X cv => ⟨_, pss_one (ps_wSt cv), h1.run env s o env' s' h m σ H r re D w⟩⟩
theorem ss_pass : SS S (.Pass pos) xNil := ⟨fun env s o env' s' h m σ H r re D w X cv => by
  cases h
  exact ⟨_, ps_pass, w m H .refl r σ re⟩⟩
theorem ss_break : SS S (.Break pos) (fun env s => some (.bk, env, s)) := ⟨fun env s o env' s' h m σ H r re D w X cv => by
  cases h
  exact ⟨_, ps_break, w m H .refl r σ re⟩⟩
theorem ss_continue : SS S (.Continue pos) (fun env s => some (.ct, env, s)) := ⟨fun env s o env' s' h m σ H r re D w X cv => by
  cases h
  exact ⟨_, ps_continue, w m H .refl r σ re⟩⟩
theorem ss_doc {x : Str} {j p} : SS S (.Expr (.Constant (.str x) j p) pos) xNil := ⟨fun env s o env' s' h m σ H r re D w X cv => by
  cases h
  exact ⟨_, ps_doc, w m H .refl r σ re⟩⟩
theorem ss_expr (he : SE S e fe) (hs : ∀ env, swapsWith e none pos.line env = pure false) : SS S (.Expr e pos) (xDrop fe) := ⟨fun env s o env' s' h m σ H r re D w X cv => by
  refine ⟨_, ps_expr (pe_wS cv) (hs _), ?_⟩
  unfold xDrop at h
  split at h
  · rename_i v s1 h1
    cases h
    exact he.run env s v _ h1 m σ H r re _ fun m1 H1 u x1 r1 v1 => w m1 H1 x1 r1 σ (re.mono x1)
  · cases h⟩
theorem ss_ret (he : SE S e fe) : SS S (.Return (some e) pos) (xRet fe) := ⟨fun env s o env' s' h m σ H r re D w X cv => by
  refine ⟨_, ps_ret (pe_wS cv), ?_⟩
  unfold xRet at h
  split at h
  · rename_i v s1 h1
    cases h
    exact he.run env s v _ h1 m σ H r re _ fun m1 H1 u x1 r1 v1 => w m1 H1 x1 r1 u v1
  · cases h⟩
theorem ss_retN : SS S (.Return none pos) xRetN := ⟨fun env s o env' s' h m σ H r re D w X cv => by
  cases h
  exact ⟨_, ps_retN, w m H .refl r _ .non⟩⟩
theorem ss_if {c : Expr} {a b : List Stmt} {gc : Et} (hc : ST S c gc) (ha : SSs S a f) (hb : SSs S b g) : SS S (.If c a b pos) (xIf gc f g) := ⟨fun env s o env' s' h m σ H r re D w X cv => by
  refine ⟨_, ps_if (pt_wT cv) (pss_wSs cv) (pss_wSs cv), ?_⟩
  unfold xIf at h
  split at h
  · rename_i s1 h1
    exact hc.run env s _ s1 h1 m σ H r re _ fun m1 H1 x1 r1 => by
      show (if true = true then _ else _)
      rw [if_pos rfl]
      exact ha.run env s1 o env' s' h m1 σ H1 r1 (re.mono x1) D (w.ext x1)
  · rename_i s1 h1
    exact hc.run env s _ s1 h1 m σ H r re _ fun m1 H1 x1 r1 => by
      show (if false = true then _ else _)
      rw [if_neg Bool.false_ne_true]
      exact hb.run env s1 o env' s' h m1 σ H1 r1 (re.mono x1) D (w.ext x1)
  · cases h⟩
theorem ss_set {tg : Expr} {t : Tg} (ht : TgS S tg t) (he : SE S e fe) (hs : ∀ env, env.scope = S.sc → swapsWithSole [tg] e pos.line env = pure false) (hw : ∀ env, swappedStores [tg] e env = pure none) (h1 : ∀ env, (assignEach [tg] env).map (·.2) = [assign tg env]) : SS S (.Assign [tg] e pos) (xSet t fe) := ⟨fun env s o env' s' h m σ H r re D w X cv => by
  refine ⟨_, ps_asg (pe_wS cv) (ht X cv) (hs _ cv.sc) (hw _) (h1 _), ?_⟩
  unfold xSet at h
  split at h
  · rename_i v s1 h1
    split at h
    · rename_i e1 h2
      cases h
      exact he.run env s v _ h1 m σ H r re _ fun m1 H1 u x1 r1 v1 => by
        rw [cv.K]
        exact gT_run h2 (re.mono x1) v1 _ fun σ' re' _ => w m1 H1 x1 r1 σ' re'
    · cases h
  · cases h⟩
end

/-! ### what a loop walks -/
structure Seqs (K : PySem.W.Frag) (J : It) (items : List Val) (m0 : Pl) (H0 : Hp) : Prop where
  go : ∀ i v m H st, items[i]? = some v → Lat m0 H0 m H → RS K m H st → J.go i H ∧ ∀ x H', J.yld i H x H' → Ext m H m H' ∧ RS K m H' st ∧ RV K m H' v x
  stop : ∀ i m H st, i = items.length → Lat m0 H0 m H → RS K m H st → J.stop i H
theorem Seqs.mono {K : PySem.W.Frag} {J : It} {items : List Val} {m0 m1 : Pl} {H0 H1 : Hp} (s : Seqs K J items m0 H0) (x : Lat m0 H0 m1 H1) : Seqs K J items m1 H1 :=
  ⟨fun i v m H st e y r => s.go i v m H st e (x.trans y) r, fun i m H st e y r => s.stop i m H st e (x.trans y) r⟩
def wI (S : SC) (tg e : Expr) : TI := fun σ H R => ∀ X, Cov S X → ∃ w, PI X tg e w ∧ w σ H R
theorem pi_wI {S : SC} {X : Cx} (c : Cov S X) {tg e : Expr} : PI X tg e (wI S tg e) := ⟨fun pins s σ H R I h => by
  obtain ⟨t, p, q⟩ := h X c
  exact p.run pins s σ H R I q⟩
abbrev Ei := Slots → Store → Option (List Val × Store)
structure SI (S : SC) (tg e : Expr) (f : Ei) : Prop where
  run : ∀ env st l st', f env st = some (l, st') → ∀ m σ H, RS S.K m H st → RE S.K m H env σ → ∀ R : It → Hp → Prop, (∀ m' H' J, Ext m H m' H' → RS S.K m' H' st' → Seqs S.K J l m' H' → R J H') → wI S tg e σ H R
section
variable {S : SC} {pos : Pos} {tg e : Expr} {fe : Ev}
/-- a tuple, or a list that nobody changes -/
def iSeq (f : Ev) : Ei := fun env st => match f env st with
  | some (.tup l, s) => some (l, s)
  | some (.lst l, s) => some (l, s)
  | some (.frz l, s) => some (l, s)
  | _ => none
theorem seqs_tup {K : PySem.W.Frag} {m : Pl} {H : Hp} {a : Addr} {us : List V} {l : List Val} (t : TupAt K m H a us) (r : RVs K m H l us) : Seqs K (Itt K a) l m H := by
  refine ⟨fun i v m1 H1 st e x r1 => ?_, fun i m1 H1 st e x r1 => ?_⟩
  · obtain ⟨u, eu, hu⟩ := r.get e
    refine ⟨⟨us, u, (t.lat x).sq, eu⟩, fun y H' hy => ?_⟩
    obtain ⟨rfl, hy⟩ := hy
    have := (hy us (t.lat x).sq).symm.trans eu
    cases this
    exact ⟨.refl, r1, hu.lat x⟩
  · exact ⟨us, (t.lat x).sq, by rw [← r.length, e]; exact Nat.le_refl _⟩
theorem seqs_list {K : PySem.W.Frag} {m : Pl} {H : Hp} {a : Addr} {us : List V} {l : List Val} (t : ∀ m' H', Lat m H m' H' → SqL K H' a us) (r : RVs K m H l us) : Seqs K (Itl K a) l m H := by
  refine ⟨fun i v m1 H1 st e x r1 => ?_, fun i m1 H1 st e x r1 => ?_⟩
  · obtain ⟨u, eu, hu⟩ := r.get e
    refine ⟨⟨us, u, t _ _ x, eu⟩, fun y H' hy => ?_⟩
    obtain ⟨rfl, hy⟩ := hy
    have := (hy us (t _ _ x)).symm.trans eu
    cases this
    exact ⟨.refl, r1, hu.lat x⟩
  · exact ⟨us, t _ _ x, by rw [← r.length, e]; exact Nat.le_refl _⟩
theorem si_seq (he : SE S e fe) : SI S tg e (iSeq fe) := ⟨fun env st l st' h m σ H r re R q X cv => by
  unfold iSeq at h
  split at h
  · rename_i k s h1
    cases h
    refine ⟨_, pi_tup (pe_wS cv), he.run env st _ _ h1 m σ H r re _ fun m1 H1 u x1 r1 v1 => ?_⟩
    rw [cv.K]
    cases v1 with
    | tup t rs => exact ⟨_, rfl, ⟨_, t.sq⟩, q m1 H1 _ x1 r1 (seqs_tup t rs)⟩
  · rename_i k s h1
    cases h
    refine ⟨_, pi_list (pe_wS cv), he.run env st _ _ h1 m σ H r re _ fun m1 H1 u x1 r1 v1 => ?_⟩
    rw [cv.K]
    cases v1 with
    | lst t n rs => exact ⟨_, rfl, ⟨_, .inl (.inl t)⟩, q m1 H1 _ x1 r1 (seqs_list (fun _ _ x => .inl (x.rd (.inl t) n).1) rs)⟩
  · rename_i k s h1
    cases h
    refine ⟨_, pi_list (pe_wS cv), he.run env st _ _ h1 m σ H r re _ fun m1 H1 u x1 r1 v1 => ?_⟩
    rw [cv.K]
    cases v1 with
    | frz t rs => exact ⟨_, rfl, ⟨_, t.sq⟩, q m1 H1 _ x1 r1 (seqs_list (fun _ _ x => (t.lat x).sq) rs)⟩
  · cases h⟩
/-- range(n), range(a, b) -/
def rng (lo : Int) (n : Nat) : List Val := (List.range n).map fun i : Nat => Val.int (lo + (i : Int))
theorem seqs_rng {K : PySem.W.Frag} {m : Pl} {H : Hp} {lo : Int} {n : Nat} : Seqs K (Itr lo n) (rng lo n) m H := by
  refine ⟨fun i v m1 H1 st e x r1 => ?_, fun i m1 H1 st e x r1 => ?_⟩
  · unfold rng at e
    rw [List.getElem?_map] at e
    by_cases hi : i < n
    · rw [List.getElem?_range hi] at e
      cases e
      refine ⟨hi, fun y H' hy => ?_⟩
      obtain ⟨rfl, rfl⟩ := hy
      exact ⟨.refl, r1, .int _⟩
    · rw [List.getElem?_eq_none (by rw [List.length_range]; omega)] at e
      cases e
  · unfold rng at e
    rw [List.length_map, List.length_range] at e
    show n ≤ i
    omega
def iRange1 (f : Ea) : Ei := fun env st => match f env st with
  | some ([.int j], s) => if -4096 ≤ j ∧ j ≤ 4096 then some (rng 0 j.toNat, s) else none
  | _ => none
def iRange2 (f : Ea) : Ei := fun env st => match f env st with
  | some ([.int i, .int j], s) => if (-4096 ≤ i ∧ i ≤ 4096) ∧ -4096 ≤ j ∧ j ≤ 4096 then some (rng i (j - i).toNat, s) else none
  | _ => none
theorem si_range1 {p : Pos} {a : Expr} {f : Ea} (hb : Blt S "range" (.type "range")) (h : SA S [a] f) (hs : ∀ env, starEach [a] env = [(false, eval a env)]) : SI S tg (.Call (.Name "range" p) [a] [] pos) (iRange1 f) := ⟨fun env st l st' e m σ H r re R q X cv => by
  refine ⟨_, pi_range1 (cv.gl hb.gl) (by rw [cv.mg]; exact hb.no) (pa_wA cv) (hs _), ?_⟩
  unfold iRange1 at e
  split at e
  · rename_i j s h1
    split at e
    · rename_i hj
      cases e
      refine h.run env st _ _ h1 m σ H r re _ fun m1 H1 us x1 r1 v1 => ?_
      obtain ⟨u, rfl, hu⟩ := v1.one
      cases hu
      exact ⟨j, rfl, by omega, by omega, q m1 H1 _ x1 r1 seqs_rng⟩
    · cases e
  · cases e⟩
theorem si_range2 {p : Pos} {a b : Expr} {f : Ea} (hb : Blt S "range" (.type "range")) (h : SA S [a, b] f) (hs : ∀ env, starEach [a, b] env = [(false, eval a env), (false, eval b env)]) (hs2 : ∀ env, starEach [b] env = [(false, eval b env)]) : SI S tg (.Call (.Name "range" p) [a, b] [] pos) (iRange2 f) := ⟨fun env st l st' e m σ H r re R q X cv => by
  refine ⟨_, pi_range2 (cv.gl hb.gl) (by rw [cv.mg]; exact hb.no) (pa_wA cv) (hs _) (hs2 _), ?_⟩
  unfold iRange2 at e
  split at e
  · rename_i i j s h1
    split at e
    · rename_i hj
      cases e
      refine h.run env st _ _ h1 m σ H r re _ fun m1 H1 us x1 r1 v1 => ?_
      obtain ⟨u, z, rfl, hu, hz⟩ := v1.two
      cases hu
      cases hz
      exact ⟨i, j, rfl, ⟨by omega, by omega, by omega, by omega⟩, q m1 H1 _ x1 r1 seqs_rng⟩
    · cases e
  · cases e⟩

/-! ### for -/
def loopF (t : Tg) (body : Es) : List Val → Slots → Store → Option (Out × Slots × Store)
  | [], env, s => some (.nx, env, s)
  | v :: l, env, s => match eT t v env with
    | some e1 => match body e1 s with
      | some (.nx, e2, s2) => loopF t body l e2 s2
      | some (.ct, e2, s2) => loopF t body l e2 s2
      | some (.bk, e2, s2) => some (.nx, e2, s2)
      | some (.rt w, e2, s2) => some (.rt w, e2, s2)
      | none => none
    | none => none
def xFor (t : Tg) (fi : Ei) (body : Es) : Es := fun env s => match fi env s with
  | some (l, s1) => loopF t body l env s1
  | none => none
theorem drop_get {l : List Val} {i : Nat} {v : Val} {r : List Val} (h : l.drop i = v :: r) : l[i]? = some v ∧ l.drop (i + 1) = r ∧ i < l.length := by
  have hi : i < l.length := by
    by_cases hi : i < l.length
    · exact hi
    · rw [List.drop_eq_nil_of_le (by omega)] at h; cases h
  rw [List.drop_eq_getElem_cons hi] at h
  cases h
  exact ⟨List.getElem?_eq_getElem hi, rfl, hi⟩
theorem ss_for {t : Tg} {fi : Ei} {body : List Stmt} {fb : Es} (ht : TgS S tg t) (hi : SI S tg e fi) (hb : SSs S body fb) (hs : ∀ env x, foldedSetIterable e env x = pure x) : SS S (.For tg e body [] pos) (xFor t fi fb) := ⟨fun env s o env' s' h m σ H r re D w X cv => by
  refine ⟨_, ps_for (by rw [cv.xe]; exact PassesOwn.never) cv.calm (pi_wI cv) (ht X cv) (pss_wSs cv) (hs _), ?_⟩
  unfold xFor at h
  split at h
  · rename_i l s1 h1
    refine hi.run env s l s1 h1 m σ H r re _ fun m1 H1 J x1 r1 sq => ?_
    refine ⟨fun i k σ2 H2 => k = l.length - i ∧ i ≤ l.length ∧ ∃ m2 env2 s2, Ext m1 H1 m2 H2 ∧ RS S.K m2 H2 s2 ∧ RE S.K m2 H2 env2 σ2 ∧ loopF t fb (l.drop i) env2 s2 = some (o, env', s'), ⟨_, rfl, Nat.zero_le _, m1, env, s1, .refl, r1, re.mono x1, h⟩, ?_⟩
    rintro i k σ2 H2 ⟨rfl, hil, m2, env2, s2, x2, r2, re2, hl⟩
    cases hd : l.drop i with
    | nil =>
      rw [hd] at hl
      cases hl
      exact .inl ⟨sq.stop i m2 H2 _ (by
        have := congrArg List.length hd
        rw [List.length_drop] at this
        simp at this; omega) x2.toLat r2, w m2 H2 (x1.trans x2) r2 σ2 re2⟩
    | cons v rest =>
      rw [hd] at hl
      obtain ⟨g1, g2, g3⟩ := drop_get hd
      obtain ⟨go, yl⟩ := sq.go i v m2 H2 s2 g1 x2.toLat r2
      refine .inr ⟨go, fun σ3 H3 => ∃ m3 env3 s3, Ext m1 H1 m3 H3 ∧ RS S.K m3 H3 s3 ∧ RE S.K m3 H3 env3 σ3 ∧ loopF t fb (l.drop (i + 1)) env3 s3 = some (o, env', s'), fun σ3 H3 n3 => ⟨_, by omega, rfl, g3, n3⟩, fun u H3 hy => ?_⟩
      obtain ⟨x3, r3, v3⟩ := yl u H3 hy
      unfold loopF at hl
      split at hl
      · rename_i e1 ht1
        rw [cv.K]
        refine gT_run ht1 (re2.mono x3) v3 _ fun σ4 re4 _ => ?_
        cases hbd : fb e1 s2 with
        | none => rw [hbd] at hl; cases hl
        | some p =>
          obtain ⟨o5, e5, s5⟩ := p
          rw [hbd] at hl
          refine hb.run e1 s2 o5 e5 s5 hbd m2 σ4 H3 r3 re4 _ ?_
          intro m5 H5 x5 r5
          have xx : Ext m1 H1 m5 H5 := (x2.trans x3).trans x5
          cases o5 with
          | nx => exact fun σ5 re5 => ⟨m5, e5, s5, xx, r5, re5, by rw [g2]; exact hl⟩
          | ct => exact fun σ5 re5 => ⟨m5, e5, s5, xx, r5, re5, by rw [g2]; exact hl⟩
          | bk =>
            cases hl
            exact fun σ5 re5 => w m5 H5 (x1.trans xx) r5 σ5 re5
          | rt v5 =>
            cases hl
            exact w m5 H5 (x1.trans xx) r5
      · cases hl
  · cases h⟩

/-! ### list comprehensions -/
def SC.inner (S : SC) (scope : Scope) : SC := { S with sc := relS scope S.sc, as := fun x => scope.names.lookup x == some .cell || (relS scope S.sc).names.lookup x == some .local }
theorem Cov.inner {X : Cx} (c : Cov S X) (scope : Scope) (s : Shared) (H : Hp) (C : Addr) (cl : List (Str × Addr)) (fp : List Addr) : Cov (S.inner scope) (X.blk s H scope (compEnvC scope cl C X.env) fp) := by
  refine ⟨c.prog, c.w, c.K, c.mg, c.base, c.N, ?_, c.calm, c.room, rfl, fun x h => ?_⟩
  · show relS scope X.env.scope = relS scope S.sc
    rw [c.sc]
  · have h' : (scope.names.lookup x == some NameKind.cell || (relS scope S.sc).names.lookup x == some .local) = true := h
    rw [Bool.or_eq_true] at h'
    rcases h' with h' | h'
    · exact .inl h'
    · right
      show (relS scope X.env.scope).names.lookup x = some .local
      rw [c.sc]
      simpa using h'
def cYes : Et := fun _ s => some (true, s)
def SPts (S : SC) (ifs : List Expr) (g : Et) : Prop := ∀ env st b st', g env st = some (b, st') → ∀ m σ H, RS S.K m H st → RE S.K m H env σ → ∀ Q, Wb S.K m H b st' Q → ∀ X, Cov S X → ∃ t, PTs X ifs t ∧ t σ H Q
theorem sp_nil : SPts S [] cYes := fun env st b st' h m σ H r re Q q X cv => by
  cases h
  exact ⟨_, pts_nil, q m H .refl r⟩
theorem sp_one {c : Expr} {g : Et} (h : ST S c g) : SPts S [c] g := fun env st b st' e m σ H r re Q q X cv => ⟨_, pts_one (pt_wT cv), h.run env st b st' e m σ H r re Q q⟩
def loopC (t : Tg) (g : Et) (f : Ev) (env : Slots) : List Val → Store → Option (List Val × Store)
  | [], s => some ([], s)
  | v :: l, s => match eT t v env with
    | some e1 => match g e1 s with
      | some (true, s1) => match f e1 s1 with
        | some (y, s2) => match loopC t g f env l s2 with
          | some (ys, s3) => some (y :: ys, s3)
          | none => none
        | none => none
      | some (false, s1) => loopC t g f env l s1
      | none => none
    | none => none
theorem loopC_length {t : Tg} {g : Et} {f : Ev} {env : Slots} : ∀ {l : List Val} {s : Store} {ys : List Val} {s' : Store}, loopC t g f env l s = some (ys, s') → ys.length ≤ l.length
  | [], s, ys, s', h => by cases h; exact Nat.le_refl _
  | v :: l, s, ys, s', h => by
    unfold loopC at h
    split at h
    · split at h
      · split at h
        · split at h
          · rename_i h1
            cases h
            have := loopC_length h1
            simp only [List.length_cons]; omega
          · cases h
        · cases h
      · have := loopC_length h
        simp only [List.length_cons]; omega
      · cases h
    · cases h
/-- the rule's parts -/
structure LcParts (S : SC) (elt tg iter : Expr) (ifs : List Expr) (scope : Scope) (own : List (Str × Nat)) (t : Tg) (fi : Ei) (g : Et) (f : Ev) : Prop where
  ok : blkC S.N S.sc scope own = true
  ix : ∀ i ∈ t.ixs, i ∈ own.map (·.2)
  tgt : TgS (S.inner scope) tg t
  it : SI S tg iter fi
  ts : SPts (S.inner scope) ifs g
  el : SE (S.inner scope) elt f
  fs : ∀ env x, foldedSetIterable iter env x = pure x
def wG (S : SC) (tg : Expr) (t : Tg) : TG := gT S.K t
def wTs (S : SC) (ifs : List Expr) : TT := fun σ H Q => ∀ X, Cov S X → ∃ t, PTs X ifs t ∧ t σ H Q
theorem pts_wTs {X : Cx} (c : Cov S X) {ifs : List Expr} : PTs X ifs (wTs S ifs) := ⟨fun pins s σ H Q I h => by
  obtain ⟨t, p, q⟩ := h X c
  exact p.run pins s σ H Q I q⟩
theorem wipe_idem (σ : L2.St) (vs : List Nat) : wipe (wipe σ vs) vs = wipe σ vs := by
  apply List.ext_getElem?
  intro j
  rw [wipe_at, wipe_at]
  by_cases hj : j ∈ vs
  · rw [if_pos hj, if_pos hj]
    cases σ[j]? <;> rfl
  · rw [if_neg hj, if_neg hj]
/-- what is wanted of the new list -/
def WL (K : PySem.W.Frag) (m : Pl) (H : Hp) (ys : List Val) (st : Store) (Q : VK) : Prop := ∀ p H' D us, Ext m H ⟨p, m.ex⟩ H' → RS K ⟨p, D :: m.ex⟩ H' st → RVs K ⟨p, D :: m.ex⟩ H' ys us → H' D = some (.lst us) → H D = none → D ∉ m.ex → Q (.ref D) H'
theorem lc_run {elt iter : Expr} {ifs : List Expr} {scope : Scope} {own : List (Str × Nat)} {t : Tg} {fi : Ei} {g : Et} {f : Ev} (L : LcParts S elt tg iter ifs scope own t fi g f) {env : Slots} {st s1 s2 : Store} {l ys : List Val} (h1 : fi env st = some (l, s1)) (hl : l.length ≤ 4096)
    (h2 : loopC t g f (wipeE env (own.map (·.2))) l s1 = some (ys, s2)) {m : Pl} {σ : L2.St} {H : Hp} (r : RS S.K m H st) (re : RE S.K m H env σ) (Q : VK) (q : WL S.K m H ys s2 Q) :
    tLc (wI S tg iter) (gT S.K t) (wTs (S.inner scope) ifs) (wS (S.inner scope) elt) (own.map (·.2)) σ H Q := by
  refine L.it.run env st l s1 h1 m σ H r re _ fun m1 H1 J x1 r1 sq D hD => ?_
  obtain ⟨xb, rb⟩ := r1.begun (o := .lst []) hD
  refine ⟨fun i k H2 => k = l.length - i ∧ i ≤ l.length ∧ ∃ m2 s3 acc us rest, m2.ex = D :: m1.ex ∧ Lat m1 H1 m2 H2 ∧ RS S.K m2 H2 s3 ∧ H2 D = some (.lst us) ∧ RVs S.K m2 H2 acc us ∧ acc.length ≤ i ∧ loopC t g f (wipeE env (own.map (·.2))) (l.drop i) s3 = some (rest, s2) ∧ ys = acc ++ rest,
    ⟨_, rfl, Nat.zero_le _, ⟨m1.pl, D :: m1.ex⟩, s1, [], [], ys, rfl, xb, rb, upd_same, .nil, Nat.le_refl _, h2, rfl⟩, ?_⟩
  rintro i k H2 ⟨rfl, hil, m2, s3, acc, us, rest, ex2, x2, r2, hD2, va, la, hlp, rfl⟩
  cases hd : l.drop i with
  | nil =>
    rw [hd] at hlp
    cases hlp
    refine .inl ⟨sq.stop i m2 H2 s2 (by
      have := congrArg List.length hd
      rw [List.length_drop] at this
      simp at this; omega) x2 r2, ?_⟩
    obtain ⟨p2, e2⟩ := m2
    have ex2 : e2 = D :: m1.ex := ex2
    subst ex2
    rw [List.append_nil] at q
    have xl : Lat m1 H1 ⟨p2, m1.ex⟩ H2 := x2.trans (RS.ended (m := ⟨p2, m1.ex⟩) (D := D) (l := m1.ex) r2).1
    have xx : Ext m H ⟨p2, m1.ex⟩ H2 := x1.trans ⟨xl, rfl⟩
    have e1 := x1.exq
    rw [e1] at xx r2 va
    exact q p2 H2 D us xx r2 va hD2 (x1.back hD) fun h => by
      have h' : D ∈ m1.ex := by rw [e1]; exact h
      exact r1.new hD (.inr h')
  | cons v tl =>
    rw [hd] at hlp
    obtain ⟨g1, g2, g3⟩ := drop_get hd
    obtain ⟨go, yl⟩ := sq.go i v m2 H2 s3 g1 x2 r2
    refine .inr ⟨go, fun H3 => ∃ m3 s4 acc3 us3 rest3, m3.ex = D :: m1.ex ∧ Lat m1 H1 m3 H3 ∧ RS S.K m3 H3 s4 ∧ H3 D = some (.lst us3) ∧ RVs S.K m3 H3 acc3 us3 ∧ acc3.length ≤ i + 1 ∧ loopC t g f (wipeE env (own.map (·.2))) (l.drop (i + 1)) s4 = some (rest3, s2) ∧ acc ++ rest = acc3 ++ rest3,
      fun H3 n3 => ⟨_, by omega, rfl, g3, n3⟩, fun u H3 hy => ?_⟩
    obtain ⟨x3, r3, v3⟩ := yl u H3 hy
    unfold loopC at hlp
    split at hlp
    · rename_i e1 ht1
      have xL : Lat m H m2 H3 := (x1.toLat.trans x2).trans x3.toLat
      refine gT_run ht1 ((re.lat xL).wipe _) v3 _ fun σ4 re4 hw => ⟨by rw [hw _ L.ix, wipe_idem], ?_⟩
      have keepD : ∀ {m6 : Pl} {H6 : Hp}, Ext m2 H2 m6 H6 → H6 D = some (.lst us) := fun x6 => x6.keep D _ hD2 (r2.exn D (by rw [ex2]; exact List.mem_cons_self))
      split at hlp
      · rename_i s4 hg
        refine fun X cv => ?_
        refine L.ts e1 s3 true s4 hg m2 σ4 H3 r3 re4 _ (fun m4 H4 x4 r4 => ?_) X cv
        show (if true = true then _ else _)
        rw [if_pos rfl]
        split at hlp
        · rename_i y s5 hf
          split at hlp
          · rename_i zs s6 hr
            cases hlp
            refine L.el.run e1 s4 y s5 hf m4 σ4 H4 r4 (re4.mono x4) _ fun m5 H5 u5 x5 r5 v5 => ?_
            have x25 : Ext m2 H2 m5 H5 := (x3.trans x4).trans x5
            have hD5 := keepD x25
            have ex5 : m5.ex = D :: m1.ex := x25.exq.trans ex2
            have inD : D ∈ m5.ex := by rw [ex5]; exact List.mem_cons_self
            have va5 := va.mono x25
            refine ⟨us, hD5, Nat.lt_of_le_of_lt (by rw [← va.length]; exact la) (Nat.lt_of_lt_of_le g3 (line4096 hl)), m5, s5, acc ++ [y], us ++ [u5], zs, ex5, ?_, r5.made inD, upd_same, (va5.append (.cons v5 .nil)).made inD, by rw [List.length_append]; show acc.length + 1 ≤ _; omega, by rw [g2]; exact hr, by rw [List.append_assoc]; rfl⟩
            have xx : Lat m1 H1 m5 H5 := x2.trans x25.toLat
            exact ⟨xx.pre, xx.fresh, xx.exs, fun a o e hn => by rw [upd_ne (ne_of_none e hD)]; exact xx.keep a o e hn, fun a o e => by rw [upd_ne (ne_of_none e hD)]; exact xx.there a o e⟩
          · cases hlp
        · cases hlp
      · rename_i s4 hg
        refine fun X cv => ?_
        refine L.ts e1 s3 false s4 hg m2 σ4 H3 r3 re4 _ (fun m4 H4 x4 r4 => ?_) X cv
        show (if false = true then _ else _)
        rw [if_neg Bool.false_ne_true]
        have x24 : Ext m2 H2 m4 H4 := x3.trans x4
        exact ⟨m4, s4, acc, us, rest, x24.exq.trans ex2, x2.trans x24.toLat, r4, keepD x24, va.mono x24, by omega, by rw [g2]; exact hlp, rfl⟩
      · cases hlp
    · cases hlp
def fComp (vs : List Nat) (t : Tg) (fi : Ei) (g : Et) (f : Ev) : Ev := fun env st => match fi env st with
  | some (l, s1) => if l.length ≤ 4096 then match loopC t g f (wipeE env vs) l s1 with
    | some (ys, s2) => some (.lst ys, s2)
    | none => none
    else none
  | none => none
def fCompN (vs : List Nat) (t : Tg) (fi : Ei) (g : Et) (f : Ev) : Ev := fun env st => match fi env st with
  | some (l, s1) => if l.length ≤ 4096 then match loopC t g f (wipeE env vs) l s1 with
    | some (ys, s2) => some (.ref s2.length, s2 ++ [.list ys])
    | none => none
    else none
  | none => none
theorem WL.lst {K : PySem.W.Frag} {m : Pl} {H : Hp} {ys : List Val} {st : Store} {Q : VK} (q : Wn K m H (.lst ys) st Q) : WL K m H ys st Q := fun p H' D us x r v hD h0 hn => by
  obtain ⟨x2, r2⟩ := RS.ended (m := ⟨p, m.ex⟩) (D := D) (l := m.ex) r
  refine q ⟨p, m.ex⟩ H' _ x r2 (.lst hD (fun h => ?_) (v.lat x2))
  rcases h with h | h
  · exact r.exn D List.mem_cons_self h
  · exact hn h
theorem WL.new {K : PySem.W.Frag} {m : Pl} {H : Hp} {ys : List Val} {st : Store} {Q : VK} (q : Wn K m H (.ref st.length) (st ++ [.list ys]) Q) : WL K m H ys st Q := fun p H' D us x r v hD h0 hn => by
  have x' : Ext m H ⟨p ++ [D], m.ex⟩ H' := ⟨⟨x.pre.trans (List.prefix_append p [D]), fun a h => by
    rcases List.mem_append.mp (show a ∈ p ++ [D] from h) with h | h
    · exact x.fresh a h
    · right; rw [List.mem_singleton.mp h]; exact h0, x.exs, x.keep, x.there⟩, rfl⟩
  refine q ⟨p ++ [D], m.ex⟩ H' _ x' (r.adopt hD v hn) (.ref ?_)
  have hlen : p.length = st.length := r.len
  show (p ++ [D])[st.length]? = some D
  rw [← hlen, List.getElem?_append_right (Nat.le_refl _), Nat.sub_self]
  rfl
section
variable {elt iter : Expr} {ifs : List Expr} {scope : Scope} {own : List (Str × Nat)} {t : Tg} {fi : Ei} {g : Et}
theorem LcParts.pe (L : LcParts S elt tg iter ifs scope own t fi g fe) {X : Cx} (cv : Cov S X) : PE X (.ListComp elt [⟨tg, iter, ifs, 0⟩] scope pos) (tLc (wI S tg iter) (gT S.K t) (wTs (S.inner scope) ifs) (wS (S.inner scope) elt) (own.map (·.2))) :=
  pe_lc cv.calm cv.nN (pi_wI cv) (blkOk_by (by rw [cv.N, cv.sc]; exact L.ok)) (fun s H C cl fp => by
    have := L.tgt _ (cv.inner scope s H C cl fp)
    rw [show (X.blk s H scope (compEnvC scope cl C X.env) fp).K = S.K from cv.K] at this
    exact this) (fun s H C cl fp => pts_wTs (cv.inner scope s H C cl fp)) (fun s H C cl fp => pe_wS (cv.inner scope s H C cl fp)) (L.fs _)
theorem fComp_some {vs : List Nat} {env : Slots} {st st' : Store} {v : Val} (h : fComp vs t fi g fe env st = some (v, st')) : ∃ l s1 ys, fi env st = some (l, s1) ∧ l.length ≤ 4096 ∧ loopC t g fe (wipeE env vs) l s1 = some (ys, st') ∧ v = .lst ys := by
  unfold fComp at h
  split at h
  · rename_i l s1 h1
    split at h
    · rename_i hl
      split at h
      · rename_i ys s2 h2
        cases h
        exact ⟨l, s1, ys, h1, hl, h2, rfl⟩
      · cases h
    · cases h
  · cases h
theorem fCompN_some {vs : List Nat} {env : Slots} {st st' : Store} {v : Val} (h : fCompN vs t fi g fe env st = some (v, st')) : ∃ l s1 ys s2, fi env st = some (l, s1) ∧ l.length ≤ 4096 ∧ loopC t g fe (wipeE env vs) l s1 = some (ys, s2) ∧ v = .ref s2.length ∧ st' = s2 ++ [.list ys] := by
  unfold fCompN at h
  split at h
  · rename_i l s1 h1
    split at h
    · rename_i hl
      split at h
      · rename_i ys s2 h2
        cases h
        exact ⟨l, s1, ys, s2, h1, hl, h2, rfl, rfl⟩
      · cases h
    · cases h
  · cases h
theorem se_lc (L : LcParts S elt tg iter ifs scope own t fi g fe) : SE S (.ListComp elt [⟨tg, iter, ifs, 0⟩] scope pos) (fComp (own.map (·.2)) t fi g fe) := ⟨fun env st v st' h m σ H r re Q q X cv => by
  obtain ⟨l, s1, ys, h1, hl, h2, rfl⟩ := fComp_some h
  exact ⟨_, L.pe cv, lc_run L h1 hl h2 r re Q (.lst q)⟩⟩
theorem se_lcN (L : LcParts S elt tg iter ifs scope own t fi g fe) : SE S (.ListComp elt [⟨tg, iter, ifs, 0⟩] scope pos) (fCompN (own.map (·.2)) t fi g fe) := ⟨fun env st v st' h m σ H r re Q q X cv => by
  obtain ⟨l, s1, ys, s2, h1, hl, h2, rfl, rfl⟩ := fCompN_some h
  exact ⟨_, L.pe cv, lc_run L h1 hl h2 r re Q (.new q)⟩⟩
/-- name = [..] on one line -/
theorem LcParts.ps (L : LcParts S elt tg iter ifs scope own t fi g fe) {X : Cx} (cv : Cov S X) {i : Nat} {y : Str} {py spos : Pos} (hy : S.N[i]? = some y) (hyl : S.sc.names.lookup y = some .local) (hk : S.sc.kind = .function) (hl : (py.line == pos.line) = true)
    (ha : (scope.names.any fun (n, k) => n == y && (k == .local || k == .cell)) = false) :
    PS X (.Assign [.Name y py] (.ListComp elt [⟨tg, iter, ifs, 0⟩] scope pos) spos) (tAsg (tLc (wI S tg iter) (gT S.K t) (wTs (S.inner scope) ifs) (wS (S.inner scope) elt) (own.map (·.2))) (gName i)) :=
  ps_setLc cv.calm cv.nN (by rw [cv.N]; exact hy) (by rw [cv.sc]; exact hyl) (sw_true (by rw [cv.sc]; exact hk) (by rw [cv.sc]; exact hyl) hl ha) (pi_wI cv) (blkOk_by (by rw [cv.N, cv.sc]; exact L.ok)) (fun s H C cl fp => by
    have := L.tgt _ (cv.inner scope s H C cl fp)
    rw [show (X.blk s H scope (compEnvC scope cl C X.env) fp).K = S.K from cv.K] at this
    exact this) (fun s H C cl fp => pts_wTs (cv.inner scope s H C cl fp)) (fun s H C cl fp => pe_wS (cv.inner scope s H C cl fp)) (L.fs _)
theorem ss_lc (L : LcParts S elt tg iter ifs scope own t fi g fe) {i : Nat} {y : Str} {py spos : Pos} (hy : S.N[i]? = some y) (hyl : S.sc.names.lookup y = some .local) (hk : S.sc.kind = .function) (hl : (py.line == pos.line) = true)
    (ha : (scope.names.any fun (n, k) => n == y && (k == .local || k == .cell)) = false) : SS S (.Assign [.Name y py] (.ListComp elt [⟨tg, iter, ifs, 0⟩] scope pos) spos) (xSet (.one i) (fComp (own.map (·.2)) t fi g fe)) := ⟨fun env s o env' s' h m σ H r re D w X cv => by
  refine ⟨_, L.ps cv hy hyl hk hl ha, ?_⟩
  unfold xSet at h
  split at h
  · rename_i v s1 h1
    cases h
    obtain ⟨l, s3, ys, h3, hl, h2, rfl⟩ := fComp_some h1
    exact lc_run L h3 hl h2 r re _ (.lst fun m1 H1 u x1 r1 v1 => w m1 H1 x1 r1 _ ((re.mono x1).set v1))
  · cases h⟩
theorem ss_lcN (L : LcParts S elt tg iter ifs scope own t fi g fe) {i : Nat} {y : Str} {py spos : Pos} (hy : S.N[i]? = some y) (hyl : S.sc.names.lookup y = some .local) (hk : S.sc.kind = .function) (hl : (py.line == pos.line) = true)
    (ha : (scope.names.any fun (n, k) => n == y && (k == .local || k == .cell)) = false) : SS S (.Assign [.Name y py] (.ListComp elt [⟨tg, iter, ifs, 0⟩] scope pos) spos) (xSet (.one i) (fCompN (own.map (·.2)) t fi g fe)) := ⟨fun env s o env' s' h m σ H r re D w X cv => by
  refine ⟨_, L.ps cv hy hyl hk hl ha, ?_⟩
  unfold xSet at h
  split at h
  · rename_i v s1 h1
    cases h
    obtain ⟨l, s3, ys, s2, h3, hl, h2, rfl, rfl⟩ := fCompN_some h1
    exact lc_run L h3 hl h2 r re _ (.new fun m1 H1 u x1 r1 v1 => w m1 H1 x1 r1 _ ((re.mono x1).set v1))
  · cases h⟩
end
end
end DD

set_option Elab.async false
set_option linter.all false
set_option maxRecDepth 100000
set_option maxHeartbeats 2000000
/-! DDef: a def keeps what its body gives; what it leaves behind is forgotten. -/
namespace DD
open PySem PySem.Spec PyProof.Rows L2

def startE (N : List Str) (args : List Val) : Slots := args.map some ++ List.replicate (N.length - args.length) none
theorem RE.start {K : PySem.W.Frag} {m : Pl} {H : Hp} {N : List Str} {args : List Val} {vs : List V} (r : RVs K m H args vs) : RE K m H (startE N args) (start N vs) := by
  refine ⟨?_, fun i v e => ?_⟩
  · unfold startE L2.start
    rw [List.length_append, List.length_append, List.length_map, List.length_map, List.length_replicate, List.length_replicate, r.length]
  · unfold startE at e
    unfold L2.start
    by_cases hi : i < args.length
    · rw [List.getElem?_append_left (by rw [List.length_map]; exact hi), List.getElem?_map] at e
      rw [List.getElem?_append_left (by rw [List.length_map, ← r.length]; exact hi), List.getElem?_map]
      cases h : args[i]? with
      | none => rw [h] at e; cases e
      | some w =>
        rw [h] at e
        cases e
        obtain ⟨u, eu, hu⟩ := r.get h
        exact ⟨u, by rw [eu]; rfl, hu⟩
    · rw [List.getElem?_append_right (by rw [List.length_map]; omega), List.getElem?_replicate] at e
      split at e <;> cases e

mutual
/-- a value whose places lie below n -/
def cl (n : Nat) : Val → Bool
  | .ref i => decide (i < n)
  | .tup l | .lst l | .frz l => cls n l
  | _ => true
def cls (n : Nat) : List Val → Bool
  | [] => true
  | v :: l => cl n v && cls n l
end
def clC (n : Nat) : Cell → Bool
  | .list l => cls n l
  | .dict l => cls n (l.map (·.2))
section
variable {K : PySem.W.Frag} {m : Pl} {H : Hp}
mutual
theorem RV.cl : ∀ {v : Val} {u : V}, RV K m H v u → cl m.pl.length v = true
  | _, _, .non => by unfold DD.cl; rfl
  | _, _, .bl b => by unfold DD.cl; rfl
  | _, _, .int b => by unfold DD.cl; rfl
  | _, _, .str b => by unfold DD.cl; rfl
  | _, _, .tup h r => by unfold DD.cl; exact RVs.cl r
  | _, _, .lst h n r => by unfold DD.cl; exact RVs.cl r
  | _, _, .frz h r => by unfold DD.cl; exact RVs.cl r
  | _, _, .ref h => by unfold DD.cl; exact decide_eq_true (List.getElem?_eq_some_iff.mp h).1
  | _, _, .ty n => by unfold DD.cl; rfl
theorem RVs.cl : ∀ {l : List Val} {us : List V}, RVs K m H l us → cls m.pl.length l = true
  | _, _, .nil => by unfold cls; rfl
  | _, _, .cons h r => by unfold cls; rw [RV.cl h, RVs.cl r]; rfl
end
end
mutual
/-- v is v' when the places from n on are forgotten -/
inductive Fz (st : Store) (n : Nat) : Val → Val → Prop
  | non : Fz st n .non .non
  | bl (b : Bool) : Fz st n (.bl b) (.bl b)
  | int (i : Int) : Fz st n (.int i) (.int i)
  | str (x : Str) : Fz st n (.str x) (.str x)
  | ty (x : String) : Fz st n (.ty x) (.ty x)
  | tup {l l' : List Val} : Fzs st n l l' → Fz st n (.tup l) (.tup l')
  | lst {l l' : List Val} : Fzs st n l l' → Fz st n (.lst l) (.lst l')
  | frz {l l' : List Val} : Fzs st n l l' → Fz st n (.frz l) (.frz l')
  | old {i : Nat} : i < n → Fz st n (.ref i) (.ref i)
  | new {i : Nat} {l l' : List Val} : n ≤ i → st[i]? = some (.list l) → Fzs st n l l' → Fz st n (.ref i) (.lst l')
inductive Fzs (st : Store) (n : Nat) : List Val → List Val → Prop
  | nil : Fzs st n [] []
  | cons {v v' : Val} {l l' : List Val} : Fz st n v v' → Fzs st n l l' → Fzs st n (v :: l) (v' :: l')
end
section
variable {st : Store} {n : Nat}
mutual
theorem Fz.same : ∀ {v : Val}, cl n v = true → Fz st n v v
  | .non, _ => .non
  | .bl b, _ => .bl b
  | .int i, _ => .int i
  | .str x, _ => .str x
  | .ty x, _ => .ty x
  | .tup l, h => .tup (Fzs.same (by unfold cl at h; exact h))
  | .lst l, h => .lst (Fzs.same (by unfold cl at h; exact h))
  | .frz l, h => .frz (Fzs.same (by unfold cl at h; exact h))
  | .ref i, h => .old (by unfold cl at h; exact of_decide_eq_true h)
theorem Fzs.same : ∀ {l : List Val}, cls n l = true → Fzs st n l l
  | [], _ => .nil
  | v :: l, h => by
    unfold cls at h
    rw [Bool.and_eq_true] at h
    exact .cons (Fz.same h.1) (Fzs.same h.2)
end
end
section
variable {K : PySem.W.Frag} {m : Pl} {H : Hp} {st : Store} {n : Nat}
theorem has_take {a : Addr} (h : (⟨m.pl.take n, m.ex⟩ : Pl).has a) : m.has a := by
  rcases h with h | h
  · exact .inl (List.mem_of_mem_take h)
  · exact .inr h
theorem TupAt.cut {a : Addr} {us : List V} (h : TupAt K m H a us) : TupAt K ⟨m.pl.take n, m.ex⟩ H a us := by
  rcases h with ⟨h, k⟩ | h
  · exact .inl ⟨h, fun z => k (has_take z)⟩
  · exact .inr h
theorem FrzAt.cut {a : Addr} {us : List V} (h : FrzAt K m H a us) : FrzAt K ⟨m.pl.take n, m.ex⟩ H a us := by
  rcases h with ⟨h, k⟩ | h
  · exact .inl ⟨h, fun z => k (has_take z)⟩
  · exact .inr h
theorem not_take (r : RS K m H st) {i : Nat} {a : Addr} (h : m.pl[i]? = some a) (hi : n ≤ i) : ¬ (⟨m.pl.take n, m.ex⟩ : Pl).has a := fun z => by
  rcases z with z | z
  · obtain ⟨j, hj, e⟩ := List.getElem_of_mem z
    have hj' : j < n ∧ j < m.pl.length := by
      rw [List.length_take] at hj; omega
    have e2 : m.pl[j]? = some a := by
      rw [List.getElem_take] at e
      rw [List.getElem?_eq_getElem hj'.2, e]
    have := (List.getElem_inj r.nd (h₀ := (List.getElem?_eq_some_iff.mp h).1) (h₁ := hj'.2)).mp (by
      rw [(List.getElem?_eq_some_iff.mp h).2, (List.getElem?_eq_some_iff.mp e2).2])
    omega
  · exact r.exn a z (List.mem_of_getElem? h)
mutual
theorem RV.fz (r : RS K m H st) : ∀ {v v' : Val} {u : V}, Fz st n v v' → RV K m H v u → RV K ⟨m.pl.take n, m.ex⟩ H v' u
  | _, _, _, .non, .non => .non
  | _, _, _, .bl b, .bl _ => .bl b
  | _, _, _, .int b, .int _ => .int b
  | _, _, _, .str b, .str _ => .str b
  | _, _, _, .ty b, .ty _ => .ty b
  | _, _, _, .tup f, .tup h q => .tup h.cut (RVs.fz r f q)
  | _, _, _, .lst f, .lst h k q => .lst h (fun z => k (has_take z)) (RVs.fz r f q)
  | _, _, _, .frz f, .frz h q => .frz h.cut (RVs.fz r f q)
  | _, _, _, .old hi, .ref h => .ref (by
    show (m.pl.take n)[_]? = _
    rw [List.getElem?_take_of_lt hi]
    exact h)
  | _, _, _, .new hi e f, .ref h => by
    obtain ⟨us, hu, q⟩ := r.cell _ _ _ h e
    exact .lst hu (not_take r h hi) (RVs.fz r f q)
theorem RVs.fz (r : RS K m H st) : ∀ {l l' : List Val} {us : List V}, Fzs st n l l' → RVs K m H l us → RVs K ⟨m.pl.take n, m.ex⟩ H l' us
  | _, _, _, .nil, .nil => .nil
  | _, _, _, .cons f g, .cons h q => .cons (RV.fz r f h) (RVs.fz r g q)
end
end
def FzC (st : Store) (n : Nat) : Cell → Cell → Prop
  | .list l, .list l' => Fzs st n l l'
  | .dict l, .dict l' => l.map (·.1) = l'.map (·.1) ∧ Fzs st n (l.map (·.2)) (l'.map (·.2))
  | _, _ => False
/-- from st on the body came to st2 and v2; what is left is st1 and v1 -/
structure Fin (st st2 : Store) (v2 : Val) (st1 : Store) (v1 : Val) : Prop where
  le : st.length ≤ st1.length
  le2 : st1.length ≤ st2.length
  cells : ∀ i, i < st1.length → (i < st.length ∧ st2[i]? = st[i]? ∧ st1[i]? = st[i]?) ∨ ∃ c c', st2[i]? = some c ∧ st1[i]? = some c' ∧ FzC st2 st1.length c c'
  val : Fz st2 st1.length v2 v1
theorem RS.closed {K : PySem.W.Frag} {m : Pl} {H : Hp} {st : Store} (r : RS K m H st) {i : Nat} {c : Cell} (h : st[i]? = some c) : clC st.length c = true := by
  have hi : i < m.pl.length := by rw [r.len]; exact (List.getElem?_eq_some_iff.mp h).1
  have q := r.cell i _ c (List.getElem?_eq_getElem hi) h
  cases c with
  | list l => obtain ⟨us, _, q⟩ := q; have := q.cl; rw [r.len] at this; exact this
  | dict l => obtain ⟨us, _, _, q⟩ := q; have := q.cl; rw [r.len] at this; exact this
mutual
theorem cl_le {n k : Nat} (h : n ≤ k) : ∀ {v : Val}, cl n v = true → cl k v = true
  | .non, _ => by unfold cl; rfl
  | .bl b, _ => by unfold cl; rfl
  | .int i, _ => by unfold cl; rfl
  | .str x, _ => by unfold cl; rfl
  | .ty x, _ => by unfold cl; rfl
  | .tup l, e => by unfold cl at e ⊢; exact cls_le h e
  | .lst l, e => by unfold cl at e ⊢; exact cls_le h e
  | .frz l, e => by unfold cl at e ⊢; exact cls_le h e
  | .ref i, e => by unfold cl at e ⊢; exact decide_eq_true (Nat.lt_of_lt_of_le (of_decide_eq_true e) h)
theorem cls_le {n k : Nat} (h : n ≤ k) : ∀ {l : List Val}, cls n l = true → cls k l = true
  | [], _ => by unfold cls; rfl
  | v :: l, e => by
    unfold cls at e ⊢
    rw [Bool.and_eq_true] at e ⊢
    exact ⟨cl_le h e.1, cls_le h e.2⟩
end
/-- what the body leaves, as the caller sees it -/
theorem Fin.run {K : PySem.W.Frag} {m m2 : Pl} {H H2 : Hp} {st st2 st1 : Store} {v2 v1 : Val} {u : V} (f : Fin st st2 v2 st1 v1) (r : RS K m H st) (x : Ext m H m2 H2) (r2 : RS K m2 H2 st2) (v : RV K m2 H2 v2 u) :
    Ext m H ⟨m2.pl.take st1.length, m2.ex⟩ H2 ∧ RS K ⟨m2.pl.take st1.length, m2.ex⟩ H2 st1 ∧ RV K ⟨m2.pl.take st1.length, m2.ex⟩ H2 v1 u := by
  have hlen : (m2.pl.take st1.length).length = st1.length := by
    rw [List.length_take, r2.len]; have := f.le2; omega
  have pre : m.pl <+: m2.pl.take st1.length := by
    obtain ⟨t, e⟩ := x.pre
    refine ⟨t.take (st1.length - m.pl.length), ?_⟩
    rw [← e, List.take_append, List.take_of_length_le (l := m.pl) (by rw [r.len]; exact f.le)]
  refine ⟨⟨⟨pre, fun a h => x.fresh a (List.mem_of_mem_take h), x.exs, x.keep, x.there⟩, x.exq⟩, ⟨hlen, r2.nd.sublist (List.take_sublist _ _), fun i a c h1 h2 => ?_, fun a h h' => r2.exn a h (List.mem_of_mem_take h'), r2.exo⟩, v.fz r2 f.val⟩
  have h1' : (m2.pl.take st1.length)[i]? = some a := h1
  have hi : i < st1.length := (List.getElem?_eq_some_iff.mp h2).1
  rw [List.getElem?_take_of_lt hi] at h1'
  have key : ∀ {c c' : Cell}, st2[i]? = some c → FzC st2 st1.length c c' → RC K ⟨m2.pl.take st1.length, m2.ex⟩ H2 a c' := fun {c c'} e q => by
    have w := r2.cell i a c h1' e
    cases c with
    | list l => cases c' with
      | list l' => obtain ⟨us, hu, w⟩ := w; exact ⟨us, hu, w.fz r2 q⟩
      | dict l' => cases q
    | dict l => cases c' with
      | list l' => cases q
      | dict l' => obtain ⟨us, hu, hk, w⟩ := w; exact ⟨us, hu, q.1.symm.trans hk, w.fz r2 q.2⟩
  rcases f.cells i hi with ⟨h0, e2, e1⟩ | ⟨d, d', e2, e1, q⟩
  · rw [h2] at e1
    have e0 := e1.symm
    refine key (e2.trans e0) ?_
    have hc := r.closed e0
    cases c with
    | list l => exact Fzs.same (cls_le f.le hc)
    | dict l => exact ⟨rfl, Fzs.same (cls_le f.le hc)⟩
  · rw [h2] at e1
    cases e1
    exact key e2 q
/-- nothing of the caller's store was changed -/
theorem Fin.pure {st t : Store} {v2 v1 : Val} (h : Fz (st ++ t) st.length v2 v1) : Fin st (st ++ t) v2 st v1 :=
  ⟨Nat.le_refl _, by rw [List.length_append]; omega, fun i hi => .inl ⟨hi, List.getElem?_append_left hi, rfl⟩, h⟩
theorem Fin.same {st : Store} {v : Val} (h : cl st.length v = true) : Fin st st v st v := by
  have := Fin.pure (st := st) (t := []) (v2 := v) (v1 := v) (Fz.same h)
  rwa [List.append_nil] at this
/-- one place was written -/
theorem Fin.set {st t : Store} {v2 v1 : Val} {b : Nat} {c : Cell} (hb : b < st.length) (hc : clC st.length c = true) (h : Fz (st.set b c ++ t) st.length v2 v1) : Fin st (st.set b c ++ t) v2 (st.set b c) v1 := by
  refine ⟨by rw [List.length_set]; exact Nat.le_refl _, by rw [List.length_append]; omega, fun i hi => ?_, by rw [List.length_set]; exact h⟩
  rw [List.length_set] at hi
  by_cases e : b = i
  · subst e
    refine .inr ⟨c, c, by rw [List.getElem?_append_left (by rw [List.length_set]; exact hi), List.getElem?_set_self hi], List.getElem?_set_self hi, ?_⟩
    rw [List.length_set]
    cases c with
    | list l => exact Fzs.same hc
    | dict l => exact ⟨rfl, Fzs.same hc⟩
  · exact .inl ⟨hi, by rw [List.getElem?_append_left (by rw [List.length_set]; exact hi), List.getElem?_set_ne e], List.getElem?_set_ne e⟩

/-- what the body of a def gives -/
def Gives (fb : Es) (N : List Str) (args : List Val) (st : Store) (v : Val) (st' : Store) : Prop := ∃ o env' st2 v2, fb (startE N args) st = some (o, env', st2) ∧ (o = .rt v2 ∨ (o = .nx ∧ v2 = .non)) ∧ Fin st st2 v2 st' v
theorem fn_ok {P : Program} {w : World} {K : PySem.W.Frag} {mg : Str → Option Value} {base : Heap} {k : Nat} {x qual : Str} {st : Stmt} {f : Addr} {fd : FuncData} {N ps : List Str} {g : Fn} {fb : Es} (F : Fun K x qual st f fd) (Sc : FnScope N ps (defScope st))
    (hS : SSs ⟨P, w, K, mg, base, N, defScope st, fun _ => true, k, Sc.nd⟩ (defBody st) fb) (hlen : ∀ args s r, g args s = some r → args.length = ps.length) (hg : ∀ args s v s', g args s = some (v, s') → Gives fb N args s v s') :
    FnOk P w K mg base CX0 (k + 1) f fd ps (spM K g) := by
  refine F.ok Sc (fun vs H Q E h => ?_) fun cdv A outer s H vs Q E hr h => ?_
  · obtain ⟨m, args, s, v, s', r, rv, e, q⟩ := h
    rw [← rv.length]
    exact hlen _ _ _ e
  · obtain ⟨m, args, s0, v, s', r, rv, e, q⟩ := h
    obtain ⟨o, env', s2, v2, hb, ho, fin⟩ := hg _ _ _ _ e
    have cv : Cov ⟨P, w, K, mg, base, N, defScope st, fun _ => true, k, Sc.nd⟩ (cxOf CX0 P w K mg base N qual (defScope st) f cdv A outer s H E).nox := ⟨rfl, rfl, rfl, rfl, rfl, rfl, rfl, rfl, hr, rfl, fun _ _ => .inl rfl⟩
    refine ⟨_, pss_wSs cv, hS.run _ s0 o env' s2 hb m (start N vs) H r (.start rv) _ fun m2 H2 x2 r2 => ?_⟩
    rcases ho with rfl | ⟨rfl, rfl⟩
    · intro u hu
      obtain ⟨a, b, c⟩ := fin.run r x2 r2 hu
      exact q _ _ _ a b c
    · intro σ2 re2
      obtain ⟨a, b, c⟩ := fin.run r x2 r2 (u := V.non) .non
      exact q _ _ _ a b c
end DD

set_option Elab.async false
set_option linter.all false
set_option maxRecDepth 100000
set_option maxHeartbeats 2000000
/-! DIter: zip and enumerate over lists, tuples and texts in any mix. -/
namespace DD
open PySem PySem.Spec PyProof.Rows L2

/-- what is walked: a list, a tuple, a text -/
inductive Src where
  | lst (a : Addr) | tup (a : Addr) | txt (x : Str)
def Src.v : Src → V
  | .lst a => .ref a
  | .tup a => .ref a
  | .txt x => .str x
def Src.u (t : Tok) : Src → Value
  | .lst a => .ref a
  | .tup a => .ref a
  | .txt x => .str x t
def signs (x : Str) : List V := x.cps.toList.map fun c => V.str ⟨#[c]⟩
def Src.Hold (K : PySem.W.Frag) (H : Hp) (xs : List V) : Src → Prop
  | .lst a => SqL K H a xs
  | .tup a => SqT K H a xs
  | .txt x => xs = signs x
def Src.It (t : Tok) (it : Addr) (i : Nat) (h : Heap) : Src → Prop
  | .lst a => h.IsListIter it a i
  | .tup a => h.IsTupleIter it a i
  | .txt x => h.IsStrIter it (strIterType x) x t i
def Src.cells : Src → List Addr
  | .lst a => [a]
  | .tup a => [a]
  | .txt _ => []
def Src.In (its : Array Value) (h : Heap) : Src → Prop
  | .lst a => h.IsList a its
  | .tup a => h.IsTuple a its
  | .txt _ => True
def Src.n (its : Array Value) : Src → Nat
  | .lst _ => its.size
  | .tup _ => its.size
  | .txt x => x.cps.size
def Src.P (its : Array Value) (i : Nat) (v : Value) : Src → Prop
  | .lst _ => its[i]? = some v
  | .tup _ => its[i]? = some v
  | .txt x => ∃ c u, x.cps[i]? = some c ∧ v = .str ⟨#[c]⟩ u
theorem Src.draws {prog : Program} {w : World} {A : Around} (hh : A.handled = none) (s : Src) (t : Tok) (it : Addr) (its : Array Value) (hne : it ∉ s.cells) : Draws prog w A it (it :: s.cells) (s.n its) (fun i v => s.P its i v) (fun i h => s.It t it i h ∧ s.In its h) := by
  cases s with
  | lst a => exact Draws.list hh it a (fun e => hne (by rw [e]; exact List.mem_cons_self)) its
  | tup a => exact Draws.tuple hh it a (fun e => hne (by rw [e]; exact List.mem_cons_self)) its
  | txt x =>
    have D := Draws.text (prog := prog) (w := w) hh it x t
    exact ⟨fun i h st => D.live i h st.1, fun i h h' st k => ⟨D.frame i h h' st.1 k, trivial⟩, fun i s Q E hi st q => D.item i s Q E hi st.1 fun x h' tk p st' sb => q x h' tk p ⟨st', trivial⟩ sb, fun s Q E st q => D.done s Q E st.1 q⟩
def Src.o (t : Tok) : Src → Obj
  | .lst a => { cls := .type "list_iterator", data := .fields #[.ref a, .int 0 0] }
  | .tup a => { cls := .type "tuple_iterator", data := .fields #[.ref a, .int 0 0] }
  | .txt x => { cls := .type (strIterType x), data := .fields #[.str x t, .int 0 0] }
theorem Src.begins (s : Src) (t : Tok) (its : Array Value) : Begins (s.u t) (s.o t) (fun h => s.In its h) := by
  cases s with
  | lst a => exact begins_list a its
  | tup a => exact begins_tuple a its
  | txt x => exact begins_text x t
theorem Src.it_new (s : Src) (t : Tok) {h : Heap} {it : Addr} (e : h.get? it = some (s.o t)) : s.It t it 0 h := by
  cases s with
  | lst a => exact ⟨_, e, rfl, rfl⟩
  | tup a => exact ⟨_, e, rfl, rfl⟩
  | txt x => exact ⟨_, e, rfl, rfl⟩
theorem Src.it_obj {s : Src} {t : Tok} {h : Heap} {it : Addr} {i : Nat} (e : s.It t it i h) : ∃ o, h.get? it = some o ∧ ∀ v, o.data ≠ .cell v := by
  cases s with
  | lst a => obtain ⟨o, e, c, d⟩ := e; exact ⟨o, e, fun v q => by rw [d] at q; cases q⟩
  | tup a => obtain ⟨o, e, c, d⟩ := e; exact ⟨o, e, fun v q => by rw [d] at q; cases q⟩
  | txt x => obtain ⟨o, e, c, d⟩ := e; exact ⟨o, e, fun v q => by rw [d] at q; cases q⟩
theorem Src.it_keep {s : Src} {t : Tok} {h h' : Heap} {it : Addr} {i : Nat} (e : s.It t it i h) (k : ∀ o, h.get? it = some o → h'.get? it = some o) : s.It t it i h' := by
  cases s with
  | lst a => obtain ⟨o, e, c⟩ := e; exact ⟨o, k o e, c⟩
  | tup a => obtain ⟨o, e, c⟩ := e; exact ⟨o, k o e, c⟩
  | txt x => obtain ⟨o, e, c⟩ := e; exact ⟨o, k o e, c⟩
section
variable {X : Cx} {pins : List (Addr × Obj)} {σ : L2.St} {H : Hp} {s : Shared}
/-- what the heap has of it -/
theorem Src.real (I : Inv X pins σ H s) {z : Src} {xs : List V} (h : z.Hold X.K H xs) : ∃ its : Array Value, z.In its s.heap ∧ z.n its = xs.length ∧ (∀ i v, z.P its i v → ∃ x, xs[i]? = some x ∧ RelV x v) ∧ ∀ c ∈ z.cells, c < s.heap.objs.size := by
  cases z with
  | lst a =>
    obtain ⟨its, rv, p, _⟩ := I.list (show SqL X.K H a xs from h)
    refine ⟨its.toArray, p.isList, by show its.toArray.size = _; rw [List.size_toArray]; exact rv.length.symm, fun i v e => ?_, fun c hc => ?_⟩
    · have e : its.toArray[i]? = some v := e
      have e' : its[i]? = some v := by simpa using e
      have hi : i < xs.length := by rw [rv.length]; exact (List.getElem?_eq_some_iff.mp e').1
      obtain ⟨u, hu, r⟩ := rv.get (List.getElem?_eq_getElem hi)
      rw [e'] at hu; cases hu
      exact ⟨_, List.getElem?_eq_getElem hi, r⟩
    · rw [List.mem_singleton.mp hc]
      exact p.lt
  | tup a =>
    obtain ⟨its, rv, p, _⟩ := I.tuple (show SqT X.K H a xs from h)
    refine ⟨its.toArray, p, by show its.toArray.size = _; rw [List.size_toArray]; exact rv.length.symm, fun i v e => ?_, fun c hc => ?_⟩
    · have e : its.toArray[i]? = some v := e
      have e' : its[i]? = some v := by simpa using e
      have hi : i < xs.length := by rw [rv.length]; exact (List.getElem?_eq_some_iff.mp e').1
      obtain ⟨u, hu, r⟩ := rv.get (List.getElem?_eq_getElem hi)
      rw [e'] at hu; cases hu
      exact ⟨_, List.getElem?_eq_getElem hi, r⟩
    · rw [List.mem_singleton.mp hc]
      exact p.lt
  | txt x =>
    have h : xs = signs x := h
    subst h
    refine ⟨#[], trivial, by show x.cps.size = _; unfold signs; simp, fun i v e => ?_, fun c hc => by cases hc⟩
    obtain ⟨c, u, e, rfl⟩ := e
    refine ⟨V.str ⟨#[c]⟩, ?_, u, rfl⟩
    unfold signs
    rw [List.getElem?_map, Array.getElem?_toList, e]
    rfl
theorem Src.inj (I : Inv X pins σ H s) {z : Src} {xs ys : List V} (h : z.Hold X.K H xs) (h' : z.Hold X.K H ys) : xs = ys := by
  cases z with
  | lst a => exact I.list_inj h h'
  | tup a => exact I.tuple_inj h h'
  | txt x => exact (show xs = signs x from h).trans (show ys = signs x from h').symm
theorem Src.rel {z : Src} {v : Value} (r : RelV z.v v) : ∃ t, v = z.u t := by
  cases z with
  | lst a => exact ⟨0, r⟩
  | tup a => exact ⟨0, r⟩
  | txt x => obtain ⟨t, e⟩ := r; exact ⟨t, e⟩
end

/-! ### zip -/
def ItZ (K : PySem.W.Frag) (a b : Src) : It :=
  ⟨fun i H => ∃ (xs ys : List V), a.Hold K H xs ∧ b.Hold K H ys ∧ i < xs.length ∧ i < ys.length,
    fun i H v H' => ∃ T x y, v = .ref T ∧ H T = none ∧ H' = upd H T (.tup [x, y]) ∧ (∀ xs, a.Hold K H xs → xs[i]? = some x) ∧ ∀ ys, b.Hold K H ys → ys[i]? = some y,
    fun i H => ∃ xs ys : List V, a.Hold K H xs ∧ b.Hold K H ys ∧ i = min xs.length ys.length⟩
/-- the zip's own state -/
def ZSt (a b : Src) (t1 t2 : Tok) (z TI TO i1 i2 : Addr) (i : Nat) (h : Heap) : Prop := IsZip h z TI TO .none ∧ IsTupOf2 h TI (.ref i1) (.ref i2) ∧ (∃ a1 a2, IsTupOf2 h TO a1 a2) ∧ a.It t1 i1 i h ∧ b.It t2 i2 i h
theorem turn_z {P : Program} {w : World} {K : PySem.W.Frag} {elts : List Expr} {kk : Nat} {tpos : Pos} {a b : Src} {t1 t2 : Tok} {z TI TO i1 i2 : Addr} (D : ZipSep2 z TI TO i1 i2 (i1 :: a.cells) (i2 :: b.cells)) (h1 : i1 ∉ a.cells) (h2 : i2 ∉ b.cells) :
    Turn P w K (.Tuple elts kk tpos) (ItZ K a b) [z, TI, TO, i1, i2] z (ZSt a b t1 t2 z TI TO i1 i2) where
  mem := by simp
  obj := fun i h st c hc => by
    obtain ⟨hz, hTI, ⟨x, y, hTO⟩, g1, g2⟩ := st
    have e' : c = z ∨ c = TI ∨ c = TO ∨ c = i1 ∨ c = i2 := by simpa using hc
    rcases e' with rfl | rfl | rfl | rfl | rfl
    · exact ⟨_, hz, fun v q => nomatch q⟩
    · exact ⟨_, hTI, fun v q => nomatch q⟩
    · exact ⟨_, hTO, fun v q => nomatch q⟩
    · exact Src.it_obj g1
    · exact Src.it_obj g2
  keep := fun i h h' st k => by
    obtain ⟨hz, hTI, ⟨x, y, hTO⟩, g1, g2⟩ := st
    exact ⟨k z (by simp) _ hz, k TI (by simp) _ hTI, ⟨x, y, k TO (by simp) _ hTO⟩, Src.it_keep g1 fun o q => k i1 (by simp) o q, Src.it_keep g2 fun o q => k i2 (by simp) o q⟩
  item := by
    intro X hP hw hK hc i pins s σ H E I hf st hg
    subst hP hw hK
    obtain ⟨hz, hTI, hTO, g1, g2⟩ := st
    obtain ⟨xs, ys, hqx, hqy, hx, hy⟩ := hg
    obtain ⟨its, in1, n1, p1, _⟩ := Src.real I hqx
    obtain ⟨its2, in2, n2, p2, _⟩ := Src.real I hqy
    have hh : X.A.in1.handled = none := I.ok.hd hc
    have W := GoesN.zip2 (elts := elts) (x1 := kk) (pos := tpos) D (Src.draws (prog := X.prog) (w := X.w) hh a t1 i1 its h1) (Src.draws (prog := X.prog) (w := X.w) hh b t2 i2 its2 h2)
    refine wpAny_mono (W.goes i s (fun v s2 => ∃ x H', Inv X pins σ H' s2 ∧ RelV x v ∧ (ItZ X.K a b).yld i H x H' ∧ ZSt a b t1 t2 z TI TO i1 i2 (i + 1) s2.heap ∧ ∀ c ∈ [z, TI, TO, i1, i2], H' c = none) E (by rw [n1, n2]; omega) ⟨hz, hTI, hTO, ⟨g1, in1⟩, ⟨g2, in2⟩⟩ fun v h' tk hY st' hk htk => ?_) (fun r s1 ⟨v, e, h⟩ => ⟨v, e, h⟩) fun _ _ q => q
    obtain ⟨T, u1, u2, rfl, hT, q1, q2, o, ho, hoc, n, hod⟩ := hY
    obtain ⟨x, ex, rx⟩ := p1 i u1 q1
    obtain ⟨y, ey, ry⟩ := p2 i u2 q2
    have nT : H T = none := I.hok.fresh hT
    have new : ObjOk X.prog X.w (upd H T (.tup [x, y])) h' T (.tup [x, y]) := ⟨by show 2 ≤ sizeLine; decide, [u1, u2], .cons rx (.cons ry .nil), ⟨o, ho, hoc, n, hod⟩⟩
    have I1 : Inv X pins σ (upd H T (.tup [x, y])) { s with heap := h', toks := tk } := I.turnedNew (ch := [z, TO, i1, i2]) (fun c o hb q => hk c o hb q) (fun c hc => hf c (by
      have : c = z ∨ c = TO ∨ c = i1 ∨ c = i2 := by simpa using hc
      rcases this with rfl | rfl | rfl | rfl <;> simp)) hT new
    obtain ⟨z1, z2, z3, ⟨z4, _⟩, ⟨z5, _⟩⟩ := st'
    refine ⟨.ref T, _, I1, rfl, ⟨T, x, y, rfl, nT, rfl, fun l hl => by rw [Src.inj I hl hqx]; exact ex, fun l hl => by rw [Src.inj I hl hqy]; exact ey⟩, ⟨z1, z2, z3, z4, z5⟩, fun c hcm => ?_⟩
    have lt : c < s.heap.objs.size := by
      have e' : c = z ∨ c = TI ∨ c = TO ∨ c = i1 ∨ c = i2 := by simpa using hcm
      obtain ⟨_, _, hTO'⟩ := hTO
      rcases e' with rfl | rfl | rfl | rfl | rfl
      · exact Heap.lt_size hz
      · exact Heap.lt_size hTI
      · exact Heap.lt_size hTO'
      · obtain ⟨o, e, _⟩ := Src.it_obj g1; exact Heap.lt_size e
      · obtain ⟨o, e, _⟩ := Src.it_obj g2; exact Heap.lt_size e
    rw [upd_ne (Nat.ne_of_lt (Nat.lt_of_lt_of_le lt hT))]
    exact (hf c hcm).1
  done := by
    intro X hP hw hK hc i pins s σ H E I hf st hg
    subst hP hw hK
    obtain ⟨hz, hTI, hTO, g1, g2⟩ := st
    obtain ⟨xs, ys, hqx, hqy, hx⟩ := hg
    obtain ⟨its, in1, n1, p1, _⟩ := Src.real I hqx
    obtain ⟨its2, in2, n2, p2, _⟩ := Src.real I hqy
    have hh : X.A.in1.handled = none := I.ok.hd hc
    have W := GoesN.zip2 (elts := elts) (x1 := kk) (pos := tpos) D (Src.draws (prog := X.prog) (w := X.w) hh a t1 i1 its h1) (Src.draws (prog := X.prog) (w := X.w) hh b t2 i2 its2 h2)
    have hi : i = min (a.n its) (b.n its2) := by rw [n1, n2]; exact hx
    subst hi
    refine W.stops s (fun s' => Inv X pins σ H s') E ⟨hz, hTI, hTO, ⟨g1, in1⟩, ⟨g2, in2⟩⟩ fun h' tk hk htk => ?_
    refine I.step (g' := s.gens) (d' := s.drawn) (ch := [z, TO, i1, i2]) (fun c hc => ?_) (fun c o _ _ hn e _ => hk c o hn e) (fun c o _ _ hn e _ => ⟨o.slots, hk c o hn e⟩) (fun _ _ _ _ n => n) (fun c o hn e => ⟨o, hk c o hn e⟩) (fun _ _ e => e) (fun _ _ _ e => e) (fun c ps e => ⟨#[], by rw [e]; simp⟩) (fun m hm => ?_) (fun c u e => ?_) I.bare
    · have hcm : c ∈ [z, TI, TO, i1, i2] := by
        have : c = z ∨ c = TO ∨ c = i1 ∨ c = i2 := by simpa using hc
        rcases this with rfl | rfl | rfl | rfl <;> simp
      have f := hf c hcm
      exact ⟨f.2.2.2.1, f.2.1, f.2.2.2.2.1, f.2.2.2.2.2⟩
    · obtain ⟨o, es, ep, ho, r⟩ := hm
      refine ⟨o, es, ep, hk _ o (fun hc => ?_) ho, r⟩
      have hcm : X.env.locals ∈ [z, TI, TO, i1, i2] := by
        have : X.env.locals = z ∨ X.env.locals = TO ∨ X.env.locals = i1 ∨ X.env.locals = i2 := by simpa using hc
        rcases this with e | e | e | e <;> simp [e]
      exact (hf _ hcm).2.1 rfl
    · refine (I.hok c u e).stay (fun d v hd q => hk d v (fun hc => ?_) q) (fun _ q => q) fun _ _ q => q
      have hcm : d ∈ [z, TI, TO, i1, i2] := by
        have : d = z ∨ d = TO ∨ d = i1 ∨ d = i2 := by simpa using hc
        rcases this with e | e | e | e <;> simp [e]
      have f := (hf d hcm).1
      rcases hd with e2 | e2
      · rw [e2, e] at f; cases f
      · rw [e2] at f; cases f
  self := fun A i s Q E st h => wpAny_pyIter_zip st.1 h
def iZ (K : PySem.W.Frag) (ta : TA) : TI := fun σ H R => ta σ H fun vs H1 => ∃ (a b : Src) (xs ys : List V), vs = [a.v, b.v] ∧ a.Hold K H1 xs ∧ b.Hold K H1 ys ∧ R (ItZ K a b) H1
theorem pi_z {X : Cx} {e e2 : Expr} {ta : TA} {p pos tpos : Pos} {elts : List Expr} {kk : Nat} (hg : Gl X "zip") (hm : X.mg "zip" = none) (ha : PA X [e, e2] ta)
    (hs : starEach [e, e2] X.env = (false, eval e X.env) :: starEach [e2] X.env) (hpl : (backTo pos (starEach [e2] X.env)).any (·.1) = false) :
    PI X (.Tuple elts kk tpos) (.Call (.Name "zip" p) [e, e2] [] pos) (iZ X.K ta) := by
  refine ⟨fun pins s σ H R I h => ?_⟩
  refine Call_ (ld_blt I hg hm PyProof.Rows.boot_zip (PyProof.Rows.callWith_type1 (thn (ha.run pos pins s σ H _ I h) fun us s1 ⟨vs, H1, I1, r1, q1⟩ => ?_) hs hpl))
  obtain ⟨a, b, xs, ys, ex, hx, hy, q⟩ := q1
  subst ex
  obtain ⟨u1, u2, rfl, r1, r2⟩ := vals2 r1
  obtain ⟨t1, rfl⟩ := Src.rel r1
  obtain ⟨t2, rfl⟩ := Src.rel r2
  obtain ⟨its, in1, n1, p1, c1⟩ := Src.real I1 hx
  obtain ⟨its2, in2, n2, p2, c2⟩ := Src.real I1 hy
  refine zip_begins2 (a.begins t1 its) (b.begins t2 its2) in1 in2 fun h' hz hTI hTO h1 h2 hsz hk => wpAny_pyIter_zip hz ?_
  have I2 : Inv X pins σ H1 { s1 with heap := h' } := I1.kept (t' := s1.toks) hk
  refine ⟨s1.heap.objs.size + 4, [s1.heap.objs.size + 4, s1.heap.objs.size + 2, s1.heap.objs.size + 3, s1.heap.objs.size, s1.heap.objs.size + 1], ZSt a b t1 t2 _ _ _ _ _, _, H1, rfl, I2, turn_z (zip_sep2 c1 c2) (fun h => Nat.lt_irrefl _ (c1 _ h)) (fun h => ?_), ⟨hz, hTI, ⟨_, _, hTO⟩, a.it_new t1 h1, b.it_new t2 h2⟩, fun c hcm => ?_, q⟩
  · have := c2 _ h
    have this' : s1.heap.objs.size + 1 < s1.heap.objs.size := this
    omega
  · have e' : c = s1.heap.objs.size + 4 ∨ c = s1.heap.objs.size + 2 ∨ c = s1.heap.objs.size + 3 ∨ c = s1.heap.objs.size ∨ c = s1.heap.objs.size + 1 := by simpa using hcm
    have hle : s1.heap.objs.size ≤ c := by
      rcases e' with z | z | z | z | z <;> rw [z]
      · exact Nat.le_add_right _ _
      · exact Nat.le_add_right _ _
      · exact Nat.le_add_right _ _
      · exact Nat.le_refl _
      · exact Nat.le_add_right _ _
    exact I1.fpOk hle (I1.hok.fresh hle)

/-! ### enumerate -/
theorem newB1 {v : Value} {o : Obj} {H : Heap → Prop} (B : Begins v o H) :
    Meets (Builtin.«enumerate.__new__» ⟨[.type "enumerate", v], []⟩) (fun _ R s => H s.heap ∧
      R (.ok (.ret (.ref (s.heap.push o).objs.size))) { s with heap := (s.heap.push o).push { cls := .type "enumerate", data := .fields #[.none, .bool false, .ref s.heap.objs.size, rawInt 0, .none, .none] } }) :=
  Meets.of_wp fun prog w A R s h => by
    obtain ⟨hp, gs, dr, tk, os⟩ := s
    obtain ⟨h1, h⟩ := h
    have hsub := sub_enumerate
    have begun : ∀ {A' : Around} {E : Value → Shared → Prop} {Q : Value → Shared → Prop}, Q (.ref hp.objs.size) ⟨hp.push o, gs, dr, tk, os⟩ → wpAny (model prog w) A' (pyIter v) Q E ⟨hp, gs, dr, tk, os⟩ :=
      fun q => B.iter prog w _ _ ⟨hp, gs, dr, tk, os⟩ _ h1 q
    wp_walk using begun
    refine wpAny_stack_any fun _ => wpAny_pure ?_
    split
    · rename_i c _ _ _ _ _
      cases (c == Value.type "enumerate") <;> (wp_walk using begun; exact ⟨_, rfl, h⟩)
    · wp_walk using begun
      exact ⟨_, rfl, h⟩
theorem enum1 {prog : Program} {w : World} {A : Around} {E : Value → Shared → Prop} {s : Shared} {v : Value} {o : Obj} {H : Heap → Prop} {Q : Value → Shared → Prop} (B : Begins v o H) (h1 : H s.heap)
    (h : ∀ h', IsEnum h' (s.heap.objs.size + 1) s.heap.objs.size 0 .none → h'.get? s.heap.objs.size = some o →
      (∀ b o, s.heap.get? b = some o → h'.get? b = some o) → Q (.ref (s.heap.objs.size + 1)) { s with heap := h' }) :
    wpAny (model prog w) A (call (.type "enumerate") [v]) Q E s := by
  refine callType_new F.called_enumerate (by decide) (F.typeCall_enumerate_1 _) (F.newCall_enumerate_1 _) (fun ob => F.args_object_init_2 ob _) F.entry_enumerate_new (newB1 B) ⟨h1, ?_⟩
  have hz : (s.heap.push o).objs.size = s.heap.objs.size + 1 := Heap.size_push ..
  show _ ∧ _
  rw [hz]
  have he : IsEnum ((s.heap.push o).push { cls := .type "enumerate", data := .fields #[.none, .bool false, .ref s.heap.objs.size, rawInt 0, .none, .none] }) (s.heap.objs.size + 1) s.heap.objs.size 0 .none := by
    have e := Heap.get?_push_size (s.heap.push o) (o := { cls := .type "enumerate", data := .fields #[.none, .bool false, .ref s.heap.objs.size, rawInt 0, .none, .none] }) rfl
    rwa [hz] at e
  exact ⟨⟨_, he, rfl⟩, h _ he (Heap.get?_push_of_some _ (Heap.get?_push_size _ B.free)) fun b ob x => Heap.get?_push_of_some _ (Heap.get?_push_of_some _ x)⟩
def ItE (K : PySem.W.Frag) (a : Src) : It :=
  ⟨fun i H => ∃ xs : List V, a.Hold K H xs ∧ i < xs.length,
    fun i H v H' => ∃ T x, v = .ref T ∧ H T = none ∧ H' = upd H T (.tup [.int (i : Int), x]) ∧ ∀ xs, a.Hold K H xs → xs[i]? = some x,
    fun i H => ∃ xs : List V, a.Hold K H xs ∧ i = xs.length⟩
def ESt (a : Src) (t : Tok) (e it : Addr) (i : Nat) (h : Heap) : Prop := (∃ old, IsEnum h e it (0 + (i : Int)) old) ∧ a.It t it i h
theorem turn_e {P : Program} {w : World} {K : PySem.W.Frag} {elts : List Expr} {kk : Nat} {tpos : Pos} {a : Src} {t : Tok} {e it : Addr} (he : e ≠ it) (h1 : it ∉ a.cells) (h2 : e ∉ a.cells) :
    Turn P w K (.Tuple elts kk tpos) (ItE K a) [e, it] e (ESt a t e it) where
  mem := by simp
  obj := fun i h st c hc => by
    obtain ⟨⟨old, hz⟩, g1⟩ := st
    have e' : c = e ∨ c = it := by simpa using hc
    rcases e' with rfl | rfl
    · exact ⟨_, hz, fun v q => nomatch q⟩
    · exact Src.it_obj g1
  keep := fun i h h' st k => by
    obtain ⟨⟨old, hz⟩, g1⟩ := st
    exact ⟨⟨old, k e (by simp) _ hz⟩, Src.it_keep g1 fun o q => k it (by simp) o q⟩
  item := by
    intro X hP hw hK hc i pins s σ H E I hf st hg
    subst hP hw hK
    obtain ⟨hz, g1⟩ := st
    obtain ⟨xs, hqx, hx⟩ := hg
    obtain ⟨its, in1, n1, p1, _⟩ := Src.real I hqx
    have hh : X.A.in1.handled = none := I.ok.hd hc
    have W := GoesN.enumFrom (elts := elts) (x1 := kk) (pos := tpos) 0 (Src.draws (prog := X.prog) (w := X.w) hh a t it its h1) e he (fun z => by rcases List.mem_cons.mp z with z | z; exact he z; exact h2 z) List.mem_cons_self
    refine wpAny_mono (W.goes i s (fun v s2 => ∃ x H', Inv X pins σ H' s2 ∧ RelV x v ∧ (ItE X.K a).yld i H x H' ∧ ESt a t e it (i + 1) s2.heap ∧ ∀ c ∈ [e, it], H' c = none) E (by rw [n1]; exact hx) ⟨hz, g1, in1⟩ fun v h' tk hY st' hk htk => ?_) (fun r s1 ⟨v, e, h⟩ => ⟨v, e, h⟩) fun _ _ q => q
    obtain ⟨T, tt, u2, rfl, hT, q2, o, ho, hoc, n, hod⟩ := hY
    obtain ⟨x, ex, rx⟩ := p1 i u2 q2
    have nT : H T = none := I.hok.fresh hT
    have e0 : (0 : Int) + (i : Int) = (i : Int) := Int.zero_add _
    have new : ObjOk X.prog X.w (upd H T (.tup [.int (i : Int), x])) h' T (.tup [.int (i : Int), x]) := ⟨by show 2 ≤ sizeLine; decide, [.int (0 + (i : Int)) tt, u2], .cons ⟨tt, by rw [e0]⟩ (.cons rx .nil), ⟨o, ho, hoc, n, hod⟩⟩
    have I1 : Inv X pins σ (upd H T (.tup [.int (i : Int), x])) { s with heap := h', toks := tk } := I.turnedNew (ch := [e, it]) (fun c o hb q => hk c o hb q) hf hT new
    obtain ⟨⟨old, z1⟩, z2, _⟩ := st'
    refine ⟨.ref T, _, I1, rfl, ⟨T, x, rfl, nT, rfl, fun l hl => by rw [Src.inj I hl hqx]; exact ex⟩, ⟨⟨old, z1⟩, z2⟩, fun c hcm => ?_⟩
    have lt : c < s.heap.objs.size := by
      have e' : c = e ∨ c = it := by simpa using hcm
      obtain ⟨old, hz⟩ := hz
      rcases e' with rfl | rfl
      · exact Heap.lt_size hz
      · obtain ⟨o, e, _⟩ := Src.it_obj g1; exact Heap.lt_size e
    rw [upd_ne (Nat.ne_of_lt (Nat.lt_of_lt_of_le lt hT))]
    exact (hf c hcm).1
  done := by
    intro X hP hw hK hc i pins s σ H E I hf st hg
    subst hP hw hK
    obtain ⟨hz, g1⟩ := st
    obtain ⟨xs, hqx, hx⟩ := hg
    obtain ⟨its, in1, n1, p1, _⟩ := Src.real I hqx
    have hh : X.A.in1.handled = none := I.ok.hd hc
    have W := GoesN.enumFrom (elts := elts) (x1 := kk) (pos := tpos) 0 (Src.draws (prog := X.prog) (w := X.w) hh a t it its h1) e he (fun z => by rcases List.mem_cons.mp z with z | z; exact he z; exact h2 z) List.mem_cons_self
    have hi : i = a.n its := by rw [n1]; exact hx
    subst hi
    refine W.stops s (fun s' => Inv X pins σ H s') E ⟨hz, g1, in1⟩ fun h' tk hk htk => ?_
    refine I.step (g' := s.gens) (d' := s.drawn) (ch := [e, it]) (fun c hc => ?_) (fun c o _ _ hn e _ => hk c o hn e) (fun c o _ _ hn e _ => ⟨o.slots, hk c o hn e⟩) (fun _ _ _ _ n => n) (fun c o hn e => ⟨o, hk c o hn e⟩) (fun _ _ e => e) (fun _ _ _ e => e) (fun c ps e => ⟨#[], by rw [e]; simp⟩) (fun m hm => ?_) (fun c u eu => ?_) I.bare
    · have f := hf c hc
      exact ⟨f.2.2.2.1, f.2.1, f.2.2.2.2.1, f.2.2.2.2.2⟩
    · obtain ⟨o, es, ep, ho, r⟩ := hm
      exact ⟨o, es, ep, hk _ o (fun hc => (hf _ hc).2.1 rfl) ho, r⟩
    · refine (I.hok c u eu).stay (fun d v hd q => hk d v (fun hc => ?_) q) (fun _ q => q) fun _ _ q => q
      have f := (hf d hc).1
      rcases hd with e2 | e2
      · rw [e2, eu] at f; cases f
      · rw [e2] at f; cases f
  self := fun A i s Q E st h => let ⟨_, he⟩ := st.1; wpAny_pyIter_enum he h
def iE (K : PySem.W.Frag) (ta : TA) : TI := fun σ H R => ta σ H fun vs H1 => ∃ (a : Src) (xs : List V), vs = [a.v] ∧ a.Hold K H1 xs ∧ R (ItE K a) H1
theorem pi_e {X : Cx} {e : Expr} {ta : TA} {p pos tpos : Pos} {elts : List Expr} {kk : Nat} (hg : Gl X "enumerate") (hm : X.mg "enumerate" = none) (hb : bootBuiltins "enumerate" = some (.type "enumerate")) (ha : PA X [e] ta) (hs : starEach [e] X.env = [(false, eval e X.env)]) :
    PI X (.Tuple elts kk tpos) (.Call (.Name "enumerate" p) [e] [] pos) (iE X.K ta) := by
  refine ⟨fun pins s σ H R I h => ?_⟩
  refine Call_ (ld_blt I hg hm hb (PyProof.Rows.callWith_type1 (thn (ha.run pos pins s σ H _ I h) fun us s1 ⟨vs, H1, I1, r1, q1⟩ => ?_) hs rfl))
  obtain ⟨a, xs, ex, hx, q⟩ := q1
  subst ex
  obtain ⟨u1, rfl, r3⟩ := vals1 r1
  obtain ⟨t1, rfl⟩ := Src.rel r3
  obtain ⟨its, in1, n1, p1, c1⟩ := Src.real I1 hx
  refine enum1 (a.begins t1 its) in1 fun h' hz h1 hk => wpAny_pyIter_enum hz ?_
  have I2 : Inv X pins σ H1 { s1 with heap := h' } := I1.kept (t' := s1.toks) hk
  refine ⟨s1.heap.objs.size + 1, [s1.heap.objs.size + 1, s1.heap.objs.size], ESt a t1 _ _, _, H1, rfl, I2, turn_e (show (s1.heap.objs.size + 1 : Nat) ≠ s1.heap.objs.size by omega) (fun h => Nat.lt_irrefl _ (c1 _ h)) (fun h => ?_), ⟨⟨.none, hz⟩, a.it_new t1 h1⟩, fun c hcm => ?_, q⟩
  · have := c1 _ h
    have this' : s1.heap.objs.size + 1 < s1.heap.objs.size := this
    omega
  · have e' : c = s1.heap.objs.size + 1 ∨ c = s1.heap.objs.size := by simpa using hcm
    have hle : s1.heap.objs.size ≤ c := by
      rcases e' with z | z <;> rw [z]
      · exact Nat.le_add_right _ _
      · exact Nat.le_refl _
    exact I1.fpOk hle (I1.hok.fresh hle)

/-! ### in the small machine -/
def signsV (x : Str) : List Val := x.cps.toList.map fun c => Val.str ⟨#[c]⟩
/-- the items of what may be walked so -/
def walked : Val → Option (List Val)
  | .tup l => some l
  | .lst l => some l
  | .frz l => some l
  | .str x => some (signsV x)
  | _ => none
theorem RVs.signs {K : PySem.W.Frag} {m : Pl} {H : Hp} (x : Str) : RVs K m H (signsV x) (signs x) := by
  unfold signsV DD.signs
  induction x.cps.toList with
  | nil => exact .nil
  | cons c l ih => exact .cons (.str _) ih
/-- a source that stays as it is -/
theorem RV.src {K : PySem.W.Frag} {m : Pl} {H : Hp} {v : Val} {u : V} {l : List Val} (h : RV K m H v u) (e : walked v = some l) : ∃ (a : Src) (us : List V), u = a.v ∧ RVs K m H l us ∧ ∀ m' H', Lat m H m' H' → a.Hold K H' us := by
  cases h with
  | tup t r => cases e; exact ⟨.tup _, _, rfl, r, fun m' H' x => (t.lat x).sq⟩
  | lst t n r => cases e; exact ⟨.lst _, _, rfl, r, fun m' H' x => .inl (.inl (x.keep _ _ t fun z => n (.inl z)))⟩
  | frz t r => cases e; exact ⟨.lst _, _, rfl, r, fun m' H' x => (t.lat x).sq⟩
  | str x => cases e; exact ⟨.txt x, _, rfl, RVs.signs x, fun _ _ _ => rfl⟩
  | _ => cases e
theorem zip_get {l k : List Val} {i : Nat} {v : Val} (h : (List.zipWith (fun x y => Val.tup [x, y]) l k)[i]? = some v) : ∃ x y, l[i]? = some x ∧ k[i]? = some y ∧ v = .tup [x, y] := by
  rw [List.getElem?_zipWith] at h
  cases h1 : l[i]? with
  | none => rw [h1] at h; cases h
  | some x =>
    cases h2 : k[i]? with
    | none => rw [h1, h2] at h; cases h
    | some y =>
      rw [h1, h2] at h
      cases h
      exact ⟨x, y, rfl, rfl, rfl⟩
def iZip (f : Ea) : Ei := fun env st => match f env st with
  | some ([a, b], s) => match walked a, walked b with
    | some l, some k => some (List.zipWith (fun x y => Val.tup [x, y]) l k, s)
    | _, _ => none
  | _ => none
section
variable {S : SC} {pos : Pos}
theorem si_zip {p tpos : Pos} {a b : Expr} {f : Ea} {elts : List Expr} {kk : Nat} (hb : Blt S "zip" (.type "zip")) (h : SA S [a, b] f) (hs : ∀ env, starEach [a, b] env = (false, eval a env) :: starEach [b] env) (hpl : ∀ env, (backTo pos (starEach [b] env)).any (·.1) = false) :
    SI S (.Tuple elts kk tpos) (.Call (.Name "zip" p) [a, b] [] pos) (iZip f) := ⟨fun env st l st' e m σ H r re R q X cv => by
  refine ⟨_, pi_z (cv.gl hb.gl) (by rw [cv.mg]; exact hb.no) (pa_wA cv) (hs _) (hpl _), ?_⟩
  unfold iZip at e
  split at e
  · rename_i v w s h1
    split at e
    · rename_i l1 l2 e1 e2
      cases e
      refine h.run env st _ _ h1 m σ H r re _ fun m1 H1 us x1 r1 v1 => ?_
      obtain ⟨u, z, rfl, hu, hz⟩ := v1.two
      obtain ⟨A, xs, rfl, ra, ha⟩ := hu.src e1
      obtain ⟨B, ys, rfl, rb, hb'⟩ := hz.src e2
      rw [cv.K]
      refine ⟨A, B, xs, ys, rfl, ha _ _ .refl, hb' _ _ .refl, q m1 H1 _ x1 r1 ⟨fun i v m2 H2 st2 e x2 r2 => ?_, fun i m2 H2 st2 e x2 r2 => ⟨xs, ys, ha _ _ x2, hb' _ _ x2, ?_⟩⟩⟩
      · obtain ⟨x, y, ex, ey, rfl⟩ := zip_get e
        obtain ⟨ux, eux, rx⟩ := ra.get ex
        obtain ⟨uy, euy, ry⟩ := rb.get ey
        refine ⟨⟨xs, ys, ha _ _ x2, hb' _ _ x2, (List.getElem?_eq_some_iff.mp eux).1, (List.getElem?_eq_some_iff.mp euy).1⟩, fun z H3 hz => ?_⟩
        obtain ⟨T, x', y', rfl, nT, rfl, fx, fy⟩ := hz
        have e3 := (fx xs (ha _ _ x2)).symm.trans eux
        have e4 := (fy ys (hb' _ _ x2)).symm.trans euy
        cases e3; cases e4
        obtain ⟨x3, r3, v3⟩ := r2.tup nT (.cons (rx.lat x2) (.cons (ry.lat x2) .nil))
        exact ⟨x3, r3, v3⟩
      · rw [e, List.length_zipWith, ra.length, rb.length]
    · cases e
  · cases e⟩
def iEnumV (f : Ea) : Ei := fun env st => match f env st with
  | some ([a], s) => match walked a with
    | some l => some (List.zipWith (fun x y => Val.tup [x, y]) ((List.range l.length).map fun i : Nat => Val.int (i : Int)) l, s)
    | none => none
  | _ => none
theorem si_enum {p tpos : Pos} {a : Expr} {f : Ea} {elts : List Expr} {kk : Nat} (hb : Blt S "enumerate" (.type "enumerate")) (h : SA S [a] f) (hs : ∀ env, starEach [a] env = [(false, eval a env)]) :
    SI S (.Tuple elts kk tpos) (.Call (.Name "enumerate" p) [a] [] pos) (iEnumV f) := ⟨fun env st l st' e m σ H r re R q X cv => by
  refine ⟨_, pi_e (cv.gl hb.gl) (by rw [cv.mg]; exact hb.no) hb.bt (pa_wA cv) (hs _), ?_⟩
  unfold iEnumV at e
  split at e
  · rename_i v s h1
    split at e
    · rename_i l1 e1
      cases e
      refine h.run env st _ _ h1 m σ H r re _ fun m1 H1 us x1 r1 v1 => ?_
      obtain ⟨u, rfl, hu⟩ := v1.one
      obtain ⟨A, xs, rfl, ra, ha⟩ := hu.src e1
      rw [cv.K]
      refine ⟨A, xs, rfl, ha _ _ .refl, q m1 H1 _ x1 r1 ⟨fun i v m2 H2 st2 e x2 r2 => ?_, fun i m2 H2 st2 e x2 r2 => ⟨xs, ha _ _ x2, ?_⟩⟩⟩
      · obtain ⟨x, y, ex, ey, rfl⟩ := zip_get e
        obtain ⟨uy, euy, ry⟩ := ra.get ey
        have hi := (List.getElem?_eq_some_iff.mp ey).1
        rw [List.getElem?_map, List.getElem?_range hi] at ex
        cases ex
        refine ⟨⟨xs, ha _ _ x2, (List.getElem?_eq_some_iff.mp euy).1⟩, fun z H3 hz => ?_⟩
        obtain ⟨T, y', rfl, nT, rfl, fy⟩ := hz
        have e4 := (fy xs (ha _ _ x2)).symm.trans euy
        cases e4
        obtain ⟨x3, r3, v3⟩ := r2.tup nT (.cons (.int (i : Int)) (.cons (ry.lat x2) .nil))
        exact ⟨x3, r3, v3⟩
      · rw [e, List.length_zipWith, List.length_map, List.length_range, Nat.min_self, ra.length]
    · cases e
  · cases e⟩
/-- the signs of a text -/
def iText (f : Ev) : Ei := fun env st => match f env st with
  | some (.str x, s) => some (signsV x, s)
  | _ => none
theorem si_text {tg e : Expr} {fe : Ev} (he : SE S e fe) : SI S tg e (iText fe) := ⟨fun env st l st' h m σ H r re R q X cv => by
  refine ⟨_, pi_str (pe_wS cv), ?_⟩
  unfold iText at h
  split at h
  · rename_i x s h1
    cases h
    refine he.run env st _ _ h1 m σ H r re _ fun m1 H1 u x1 r1 v1 => ?_
    cases v1
    refine ⟨x, rfl, q m1 H1 _ x1 r1 ⟨fun i v m2 H2 st2 e x2 r2 => ?_, fun i m2 H2 st2 e x2 r2 => ?_⟩⟩
    · unfold signsV at e
      rw [List.getElem?_map, Array.getElem?_toList] at e
      cases hc : x.cps[i]? with
      | none => rw [hc] at e; cases e
      | some c =>
        rw [hc] at e
        cases e
        refine ⟨(Array.getElem?_eq_some_iff.mp hc).1, fun y H' hy => ?_⟩
        obtain ⟨rfl, c', hc', rfl⟩ := hy
        rw [hc] at hc'; cases hc'
        exact ⟨.refl, r2, .str _⟩
    · unfold signsV at e
      rw [List.length_map, Array.length_toList] at e
      show x.cps.size ≤ i
      omega
  · cases h⟩
end
end DD

set_option Elab.async false
set_option linter.all false
set_option maxRecDepth 100000
set_option maxHeartbeats 2000000
/-! DSto: lists and dicts of the store that are changed. -/
namespace DD
open PySem PySem.Spec PyProof.Rows L2
section
variable {S : SC} {pos : Pos}
/-! ### xs[i] = v -/
def xSub (fv fo fi : Ev) : Es := fun env st => match fv env st with
  | some (v, s1) => match fo env s1 with
    | some (.ref b, s2) => match fi env s2 with
      | some (.int k, s3) => match s3[b]? with
        | some (.list l) => match ixN l.length k with
          | some j => some (.nx, env, s3.set b (.list (l.set j v)))
          | none => none
        | _ => none
      | _ => none
    | _ => none
  | none => none
def gW (S : SC) (o i : Expr) : TG := gSub (wS S o) (wS S i) rSetL
theorem ss_sub {o i e : Expr} {tpos : Pos} {fo fi fe : Ev} (ho : SE S o fo) (hi : SE S i fi) (he : SE S e fe) (hs : ∀ env, swapsWithSole [.Subscript o i tpos] e pos.line env = pure false) (hw : ∀ env, swappedStores [.Subscript o i tpos] e env = pure none)
    (h1 : ∀ env, (assignEach [.Subscript o i tpos] env).map (·.2) = [assign (.Subscript o i tpos) env])
    (ha : ∀ env v, assign (.Subscript o i tpos) env v = (do
      let ov ← holding [v] (eval o env)
      let iv ← holding [v, ov] (eval i env)
      standAt tpos
      holding [v, ov, iv] (setItem ov iv v)
      release [v, ov, iv] [])) : SS S (.Assign [.Subscript o i tpos] e pos) (xSub fe fo fi) := ⟨fun env s o' env' s' h m σ H r re D w X cv => by
  refine ⟨_, ps_asg (pe_wS cv) (pg_sub (pe_wS cv) (pe_wS cv) set_list (ha _)) (hs _) (hw _) (h1 _), ?_⟩
  unfold xSub at h
  split at h
  · rename_i v s1 e1
    split at h
    · rename_i b s2 e2
      split at h
      · rename_i k s3 e3
        split at h
        · rename_i l el
          split at h
          · rename_i j ej
            cases h
            refine he.run env s v s1 e1 m σ H r re _ fun m1 H1 u1 x1 r1 v1 => ?_
            refine ho.run env s1 _ s2 e2 m1 σ H1 r1 (re.mono x1) _ fun m2 H2 u2 x2 r2 v2 => ?_
            refine hi.run env s2 _ s3 e3 m2 σ H2 r2 (re.mono (x1.trans x2)) _ fun m3 H3 u3 x3 r3 v3 => ?_
            have hu2 := v2.mono x3
            cases hu2 with
            | ref hb =>
              cases v3
              obtain ⟨us, hu, rs⟩ := r3.cell _ _ _ hb el
              refine ⟨_, us, k, j, rfl, rfl, hu, by rw [← rs.length]; exact ej, ?_⟩
              obtain ⟨x4, r4⟩ := r3.write (o := .lst (us.set j u1)) (c := .list (l.set j v)) hb fun x => ⟨_, upd_same, (rs.mono x).set (v1.mono ((x2.trans x3).trans x)) j⟩
              have xx := (x1.trans x2).trans (x3.trans x4)
              exact w m3 _ xx r4 σ (re.mono xx)
          · cases h
        · cases h
      · cases h
    · cases h
  · cases h⟩

/-! ### xs.append(v), xs.extend(ys), xs.pop() -/
structure MethOk (o : Expr) (nm : Str) (apos : Pos) (e : Expr) (es : List Expr) (cpos : Pos) : Prop where
  base : ∀ env, attributeBase o nm env (eval o env) = eval o env
  few : ∀ env, ((backTo cpos (starEach (e :: es) env)).all (fun x => !x.1) && (backToKw cpos (keywordEach [] env)).all (fun x => x.1.isSome)
      && decide ((e :: es).length + ([] : List Keyword).length + (if ([] : List Keyword).isEmpty then 0 else 1) < 30)) = true
  line : (apos.endLine == cpos.line) = true
  star : ∀ env, starEach (e :: es) env = (false, eval e env) :: starEach es env
  plain : ∀ env, (backTo cpos (starEach es env)).any (·.1) = false
/-- a method of a built-in type, by values -/
def MtS (S : SC) (id T : String) (g : Val → Fn) : Prop := ∀ X, Cov S X → ∀ m H st x l v st' u us, RS S.K m H st → g x l st = some (v, st') → RV S.K m H x u → RVs S.K m H l us → ∀ Q : VK, Wn S.K m H v st' Q → ∃ r, MtR X id r ∧ r u us H Q
def rM (X : Cx) (id : String) : V → List V → Hp → VK → Prop := fun x xs H Q => ∃ r, MtR X id r ∧ r x xs H Q
theorem mt_rM {X : Cx} {id : String} : MtR X id (rM X id) := fun pins s σ H x xs v us Q I rx rs h => by
  obtain ⟨r, p, q⟩ := h
  exact p pins s σ H x xs v us Q I rx rs q
/-- the receiver is of the type -/
def recv (T : String) (x : Val) (st : Store) : Bool := match x with
  | .str _ => T == "str"
  | .int _ => T == "int"
  | .lst _ | .frz _ => T == "list"
  | .ref b => match st[b]? with
    | some (.list _) => T == "list"
    | some (.dict _) => T == "dict"
    | none => false
  | _ => false
theorem RV.recv {K : PySem.W.Frag} {m : Pl} {H : Hp} {st : Store} (r : RS K m H st) {v : Val} {u : V} (h : RV K m H v u) {T : String} (e : DD.recv T v st = true) : tyV K T u H := by
  cases h with
  | str x => unfold DD.recv at e; exact (beq_iff_eq.mp e : T = "str")
  | int x => unfold DD.recv at e; exact (beq_iff_eq.mp e : T = "int")
  | lst h _ _ => unfold DD.recv at e; exact .inl ⟨beq_iff_eq.mp e, _, .inl (.inl h)⟩
  | frz h _ => unfold DD.recv at e; exact .inl ⟨beq_iff_eq.mp e, _, h.sq⟩
  | ref h =>
    unfold DD.recv at e
    simp only at e
    split at e
    · rename_i l hl
      obtain ⟨xs, hx, _⟩ := r.cell _ _ _ h hl
      exact .inl ⟨beq_iff_eq.mp e, _, .inl (.inl hx)⟩
    · rename_i l hl
      obtain ⟨xs, hx, _⟩ := r.cell _ _ _ h hl
      exact .inr (.inr (.inl ⟨beq_iff_eq.mp e, .inl ⟨_, hx⟩⟩))
    · cases e
  | _ => unfold DD.recv at e; cases e
def fMeth (T : String) (g : Val → Fn) (fo : Ev) (fa : Ea) : Ev := fun env st => match fo env st with
  | some (x, s1) => if recv T x s1 = true then match fa env s1 with
    | some (l, s2) => g x l s2
    | none => none
    else none
  | none => none
theorem se_meth {o e : Expr} {es : List Expr} {nm : Str} {apos : Pos} {T id : String} {g : Val → Fn} {fo : Ev} {fa : Ea} (pa : PlainAttrs T) (slot : Slot T nm id) (hty : typeOf (.builtin id) = pure (.type "method_descriptor")) (hg : MtS S id T g) (ho : SE S o fo) (ha : SA S (e :: es) fa) (mo : MethOk o nm apos e es pos) :
    SE S (.Call (.Attribute o nm apos) (e :: es) [] pos) (fMeth T g fo fa) := ⟨fun env st v st' h m σ H r re Q q X cv => by
  refine ⟨_, pe_bm pa slot hty mt_rM (pe_wS cv) (pa_wA cv) (mo.base _) (mo.few _) mo.line (mo.star _) (mo.plain _), ?_⟩
  unfold fMeth at h
  split at h
  · rename_i x s1 h1
    split at h
    · rename_i hr
      split at h
      · rename_i l s2 h2
        refine ho.run env st x s1 h1 m σ H r re _ fun m1 H1 u x1 r1 v1 => ⟨by rw [cv.K]; exact v1.recv r1 hr, ?_⟩
        exact ha.run env s1 l s2 h2 m1 σ H1 r1 (re.mono x1) _ fun m2 H2 us x2 r2 v2 => hg X cv m2 H2 s2 x l v st' u us r2 h (v1.mono x2) v2 Q fun m3 H3 u3 x3 => q m3 H3 u3 ((x1.trans x2).trans x3)
      · cases h
    · cases h
  · cases h⟩
def gAppend : Val → Fn
  | .ref b, [v], st => match st[b]? with
    | some (.list l) => if l.length < 100000 then some (.non, st.set b (.list (l ++ [v]))) else none
    | _ => none
  | _, _, _ => none
theorem ms_append : MtS S "list.append" "list" gAppend := by
  intro X cv m H st x l v st' u us r e hv hl Q q
  unfold gAppend at e
  split at e
  · split at e
    · rename_i k hk
      split at e
      · rename_i hz
        cases e
        obtain ⟨y, rfl, hy⟩ := hl.one
        cases hv with
        | ref hb =>
          obtain ⟨xs, hx, rx⟩ := r.cell _ _ _ hb hk
          refine ⟨_, mt_append, _, xs, y, rfl, rfl, hx, by rw [← rx.length]; exact Nat.lt_of_lt_of_le hz (by decide), ?_⟩
          obtain ⟨x4, r4⟩ := r.write (o := .lst (xs ++ [y])) (c := .list (k ++ [_])) hb fun x => ⟨_, upd_same, (rx.mono x).append (.cons (hy.mono x) .nil)⟩
          exact q _ _ _ x4 r4 .non
      · cases e
    · cases e
  · cases e
def gExtend : Val → Fn
  | .ref b, [.lst k], st => match st[b]? with
    | some (.list l) => if l.length + k.length < 100000 then some (.non, st.set b (.list (l ++ k))) else none
    | _ => none
  | _, _, _ => none
theorem ms_extend : MtS S "list.extend" "list" gExtend := by
  intro X cv m H st x l v st' u us r e hv hl Q q
  unfold gExtend at e
  split at e
  · split at e
    · rename_i k hk
      split at e
      · rename_i hz
        cases e
        obtain ⟨y, rfl, hy⟩ := hl.one
        cases hv with
        | ref hb => cases hy with
          | lst hy ny ry =>
            obtain ⟨xs, hx, rx⟩ := r.cell _ _ _ hb hk
            refine ⟨_, mt_extend, _, _, xs, _, rfl, rfl, hx, hy, by rw [← rx.length, ← ry.length]; exact Nat.le_trans (Nat.le_of_lt hz) (by decide), ?_⟩
            obtain ⟨x4, r4⟩ := r.write (o := .lst (xs ++ _)) (c := .list (k ++ _)) hb fun x => ⟨_, upd_same, (rx.mono x).append (ry.mono x)⟩
            exact q _ _ _ x4 r4 .non
      · cases e
    · cases e
  · cases e

/-! ### dicts -/
def keyOf : Val → Option Key
  | .int i => some (.inl i)
  | .str x => some (.inr x)
  | _ => none
def getD (l : List (Key × Val)) (k : Key) : Option Val := (l.find? fun p => decide (p.1 = k)).map (·.2)
def putD (l : List (Key × Val)) (k : Key) (v : Val) : List (Key × Val) :=
  if (l.any fun p => decide (p.1 = k)) = true then l.map (fun p => if p.1 = k then (p.1, v) else p) else l ++ [(k, v)]
section
variable {K : PySem.W.Frag} {m : Pl} {H : Hp}
theorem RV.key {v : Val} {u : V} {k : Key} (h : RV K m H v u) (e : keyOf v = some k) : u = kV k := by
  cases h <;> first | (cases e; rfl) | cases e
/-- the pairs -/
inductive RKs (K : PySem.W.Frag) (m : Pl) (H : Hp) : List (Key × Val) → List (Key × V) → Prop
  | nil : RKs K m H [] []
  | cons {k : Key} {v : Val} {u : V} {l : List (Key × Val)} {kvs : List (Key × V)} : RV K m H v u → RKs K m H l kvs → RKs K m H ((k, v) :: l) ((k, u) :: kvs)
theorem RKs.of : ∀ {l : List (Key × Val)} {kvs : List (Key × V)}, l.map (·.1) = kvs.map (·.1) → RVs K m H (l.map (·.2)) (kvs.map (·.2)) → RKs K m H l kvs
  | [], [], _, _ => .nil
  | [], _ :: _, e, _ => by cases e
  | _ :: _, [], e, _ => by cases e
  | (k, v) :: l, (k', u) :: kvs, e, h => by
    have e1 : k = k' := (List.cons.inj e).1
    subst e1
    cases h with
    | cons h r => exact .cons h (RKs.of (List.cons.inj e).2 r)
theorem RKs.keys : ∀ {l : List (Key × Val)} {kvs : List (Key × V)}, RKs K m H l kvs → l.map (·.1) = kvs.map (·.1)
  | _, _, .nil => rfl
  | _, _, .cons h r => by rw [List.map_cons, List.map_cons, RKs.keys r]
theorem RKs.vals : ∀ {l : List (Key × Val)} {kvs : List (Key × V)}, RKs K m H l kvs → RVs K m H (l.map (·.2)) (kvs.map (·.2))
  | _, _, .nil => .nil
  | _, _, .cons h r => .cons h (RKs.vals r)
theorem RKs.length {l : List (Key × Val)} {kvs : List (Key × V)} (h : RKs K m H l kvs) : l.length = kvs.length := by
  have := congrArg List.length h.keys
  simpa using this
theorem RKs.get (k : Key) : ∀ {l : List (Key × Val)} {kvs : List (Key × V)}, RKs K m H l kvs → (∀ v, getD l k = some v → ∃ u, valV kvs k = some u ∧ RV K m H v u) ∧ (getD l k = none → valV kvs k = none)
  | _, _, .nil => ⟨(fun v e => nomatch e), fun _ => rfl⟩
  | _, _, .cons (k := k') (v := w) (u := u) (l := l) (kvs := kvs) h r => by
    obtain ⟨i1, i2⟩ := RKs.get k r
    unfold getD at i1 i2 ⊢
    by_cases e : k' = k
    · rw [valV_pos (p := (k', u)) e]
      rw [List.find?_cons_of_pos (by simpa using e)]
      exact ⟨(fun v e => by cases e; exact ⟨u, rfl, h⟩), fun e => nomatch e⟩
    · rw [valV_neg (p := (k', u)) e]
      rw [List.find?_cons_of_neg (by simpa using e)]
      exact ⟨i1, i2⟩
theorem RKs.any (k : Key) {l : List (Key × Val)} {kvs : List (Key × V)} (h : RKs K m H l kvs) : (l.any fun p => decide (p.1 = k)) = kvs.any fun p => decide (p.1 = k) := by
  have h1 : ∀ l : List (Key × Val), (l.any fun p => decide (p.1 = k)) = (l.map (·.1)).any fun x => decide (x = k) := fun l => by rw [List.any_map]; rfl
  have h2 : ∀ l : List (Key × V), (l.any fun p => decide (p.1 = k)) = (l.map (·.1)).any fun x => decide (x = k) := fun l => by rw [List.any_map]; rfl
  rw [h1, h2, h.keys]
theorem RKs.append : ∀ {l k : List (Key × Val)} {xs ys : List (Key × V)}, RKs K m H l xs → RKs K m H k ys → RKs K m H (l ++ k) (xs ++ ys)
  | _, _, _, _, .nil, s => s
  | _, _, _, _, .cons h r, s => .cons h (RKs.append r s)
theorem RKs.put (k : Key) {v : Val} {u : V} (hv : RV K m H v u) {l : List (Key × Val)} {kvs : List (Key × V)} (h : RKs K m H l kvs) : RKs K m H (putD l k v) (putK kvs k u) := by
  unfold putD putK
  rw [h.any k]
  by_cases e : (kvs.any fun kv => decide (kv.1 = k)) = true
  · rw [if_pos e, if_pos e]
    clear e
    induction h with
    | nil => exact .nil
    | @cons k' w z l kvs h r ih =>
      rw [List.map_cons, List.map_cons]
      by_cases e : k' = k
      · simp only [e, if_true]
        rw [← e] at ih ⊢
        exact .cons hv ih
      · simp only [e, if_false]
        exact .cons h ih
  · rw [if_neg e, if_neg e]
    exact h.append (.cons hv .nil)
theorem RC.dict {a : Addr} {l : List (Key × Val)} (h : RC K m H a (.dict l)) : ∃ kvs, H a = some (.dK kvs) ∧ RKs K m H l kvs := by
  obtain ⟨kvs, e, ek, r⟩ := h
  exact ⟨kvs, e, .of ek r⟩
theorem RKs.rc {a : Addr} {l : List (Key × Val)} {kvs : List (Key × V)} (h : RKs K m H l kvs) (e : H a = some (.dK kvs)) : RC K m H a (.dict l) := ⟨kvs, e, h.keys, h.vals⟩
theorem RKs.mono {m' : Pl} {H' : Hp} (x : Ext m H m' H') : ∀ {l : List (Key × Val)} {kvs : List (Key × V)}, RKs K m H l kvs → RKs K m' H' l kvs
  | _, _, .nil => .nil
  | _, _, .cons h r => .cons (h.mono x) (RKs.mono x r)
end
/-- d[k] -/
def vDget : Op2
  | .ref b, y, st => match st[b]?, keyOf y with
    | some (.dict l), some k => getD l k
    | _, _ => none
  | _, _, _ => none
theorem se_dget {a b : Expr} {fa fb : Ev} (ha : SE S a fa) (hb : SE S b fb) (hs : NoSl b) : SE S (.Subscript a b pos) (fIx vDget fa fb) := ⟨fun env st v st' e m σ H r re Q q X cv => by
  refine ⟨_, pe_dget (by have := cv.units; omega) (pe_wS cv) (pe_wS cv) hs, ?_⟩
  unfold fIx at e
  split at e
  · rename_i x s1 h1
    split at e
    · rename_i y s2 h2
      split at e
      · rename_i z h3
        cases e
        refine ha.two hb h1 h2 r re fun m' H' u1 u2 x1 r1 v1 v2 => ?_
        unfold vDget at h3
        split at h3
        · split at h3
          · rename_i l k hl hk
            cases v1 with
            | ref hb =>
              obtain ⟨kvs, hd, rk⟩ := (r1.cell _ _ _ hb hl).dict
              obtain ⟨u, eu, hu⟩ := (rk.get k).1 _ h3
              rw [v2.key hk]
              exact ⟨_, u, rfl, .inl ⟨kvs, k, .inl hd, rfl, eu.symm⟩, q m' H' u x1 r1 hu⟩
          · cases h3
        · cases h3
      · cases e
    · cases e
  · cases e⟩
/-- k in d -/
def vDinB : Val → Val → Store → Option Bool
  | y, .ref b, st => match st[b]?, keyOf y with
    | some (.dict l), some k => some (getD l k).isSome
    | _, _ => none
  | _, _, _ => none
def vDin : Op2 := fun x y st => match vDinB x y st with
  | some b => some (.bl b)
  | none => none
def vDnotin : Op2 := fun x y st => match vDinB x y st with
  | some b => some (.bl (!b))
  | none => none
theorem din_run {K : PySem.W.Frag} {m : Pl} {H : Hp} {st : Store} (r : RS K m H st) {x y : Val} {b : Bool} {u1 u2 : V} (e : vDinB x y st = some b) (v1 : RV K m H x u1) (v2 : RV K m H y u2) : ∃ a o, u2 = .ref a ∧ DGet H a u1 o ∧ o.isSome = b := by
  unfold vDinB at e
  split at e
  · split at e
    · rename_i l k hl hk
      cases e
      cases v2 with
      | ref hb =>
        obtain ⟨kvs, hd, rk⟩ := (r.cell _ _ _ hb hl).dict
        refine ⟨_, valV kvs k, rfl, .inl ⟨kvs, k, .inl hd, v1.key hk, rfl⟩, ?_⟩
        cases h : getD l k with
        | none => rw [(rk.get k).2 h]; rfl
        | some w =>
          obtain ⟨u, eu, _⟩ := (rk.get k).1 w h
          rw [eu]; rfl
    · cases e
  · cases e
theorem se_din {a b : Expr} {fa fb : Ev} (ha : SE S a fa) (hb : SE S b fb) (hm : behindInMarks .In b = false) : SE S (.Compare a [.In] [b] pos) (fBin vDin fa fb) := ⟨fun env st v st' e m σ H r re Q q X cv => by
  obtain ⟨x, s1, y, h1, h2, h3⟩ := fBin_some e
  refine ⟨_, pe_cmp (pc_din (by have := cv.units; omega) (pe_wS cv) (pe_wS cv)) hm, ha.two hb h1 h2 r re fun m' H' u1 u2 x1 r1 v1 v2 => ?_⟩
  unfold vDin at h3
  split at h3
  · rename_i k hk
    cases h3
    obtain ⟨d, o, e1, g, eo⟩ := din_run r1 hk v1 v2
    exact ⟨d, o, e1, g, by rw [eo]; exact q m' H' _ x1 r1 (.bl k)⟩
  · cases h3⟩
theorem se_dnotin {a b : Expr} {fa fb : Ev} (ha : SE S a fa) (hb : SE S b fb) (hm : behindInMarks .NotIn b = false) : SE S (.Compare a [.NotIn] [b] pos) (fBin vDnotin fa fb) := ⟨fun env st v st' e m σ H r re Q q X cv => by
  obtain ⟨x, s1, y, h1, h2, h3⟩ := fBin_some e
  refine ⟨_, pe_cmp (pc_dnotin (by have := cv.units; omega) (pe_wS cv) (pe_wS cv)) hm, ha.two hb h1 h2 r re fun m' H' u1 u2 x1 r1 v1 v2 => ?_⟩
  unfold vDnotin at h3
  split at h3
  · rename_i k hk
    cases h3
    obtain ⟨d, o, e1, g, eo⟩ := din_run r1 hk v1 v2
    exact ⟨d, o, e1, g, by rw [eo]; exact q m' H' _ x1 r1 (.bl (!k))⟩
  · cases h3⟩
theorem st_din {a b : Expr} {fa fb : Ev} (ha : SE S a fa) (hb : SE S b fb) (hm : behindInMarks .In b = false) : ST S (.Compare a [.In] [b] pos) (tV (fBin vDin fa fb)) := ⟨fun env st v st' e m σ H r re Q q X cv => by
  obtain ⟨x, s1, y, h1, h2, h3⟩ := fBin_some (tV_some e)
  refine ⟨_, pt_cmp (pc_din (by have := cv.units; omega) (pe_wS cv) (pe_wS cv)) hm, ha.two hb h1 h2 r re fun m' H' u1 u2 x1 r1 v1 v2 => ?_⟩
  unfold vDin at h3
  split at h3
  · rename_i k hk
    cases h3
    obtain ⟨d, o, e1, g, eo⟩ := din_run r1 hk v1 v2
    exact ⟨d, o, e1, g, _, rfl, by rw [eo]; exact q m' H' x1 r1⟩
  · cases h3⟩
theorem st_dnotin {a b : Expr} {fa fb : Ev} (ha : SE S a fa) (hb : SE S b fb) (hm : behindInMarks .NotIn b = false) : ST S (.Compare a [.NotIn] [b] pos) (tV (fBin vDnotin fa fb)) := ⟨fun env st v st' e m σ H r re Q q X cv => by
  obtain ⟨x, s1, y, h1, h2, h3⟩ := fBin_some (tV_some e)
  refine ⟨_, pt_cmp (pc_dnotin (by have := cv.units; omega) (pe_wS cv) (pe_wS cv)) hm, ha.two hb h1 h2 r re fun m' H' u1 u2 x1 r1 v1 v2 => ?_⟩
  unfold vDnotin at h3
  split at h3
  · rename_i k hk
    cases h3
    obtain ⟨d, o, e1, g, eo⟩ := din_run r1 hk v1 v2
    exact ⟨d, o, e1, g, _, rfl, by rw [eo]; exact q m' H' x1 r1⟩
  · cases h3⟩
/-- d[k] = v -/
def xDput (fv fo fi : Ev) : Es := fun env st => match fv env st with
  | some (v, s1) => match fo env s1 with
    | some (.ref b, s2) => match fi env s2 with
      | some (y, s3) => match s3[b]?, keyOf y with
        | some (.dict l), some k => if l.length < 100000 then some (.nx, env, s3.set b (.dict (putD l k v))) else none
        | _, _ => none
      | none => none
    | _ => none
  | none => none
theorem ss_dput {o i e : Expr} {tpos : Pos} {fo fi fe : Ev} (ho : SE S o fo) (hi : SE S i fi) (he : SE S e fe) (hs : ∀ env, swapsWith e (some (.Subscript o i tpos)) pos.line env = pure false) : SS S (.Assign [.Subscript o i tpos] e pos) (xDput fe fo fi) := ⟨fun env s o' env' s' h m σ H r re D w X cv => by
  refine ⟨_, ps_dput (by have := cv.units; omega) (pe_wS cv) (pe_wS cv) (pe_wS cv) (hs _), ?_⟩
  unfold xDput at h
  split at h
  · rename_i v s1 e1
    split at h
    · rename_i b s2 e2
      split at h
      · rename_i y s3 e3
        split at h
        · rename_i l k el ek
          split at h
          · rename_i hz
            cases h
            refine he.run env s v s1 e1 m σ H r re _ fun m1 H1 u1 x1 r1 v1 => ?_
            refine ho.run env s1 _ s2 e2 m1 σ H1 r1 (re.mono x1) _ fun m2 H2 u2 x2 r2 v2 => ?_
            refine hi.run env s2 _ s3 e3 m2 σ H2 r2 (re.mono (x1.trans x2)) _ fun m3 H3 u3 x3 r3 v3 => ?_
            have hu2 := v2.mono x3
            cases hu2 with
            | ref hb =>
              obtain ⟨kvs, hd, rk⟩ := (r3.cell _ _ _ hb el).dict
              refine ⟨_, _, rfl, .inl ⟨kvs, k, hd, v3.key ek, by rw [← rk.length]; exact Nat.lt_of_lt_of_le hz (by decide), rfl⟩, ?_⟩
              obtain ⟨x4, r4⟩ := r3.write (o := .dK (putK kvs k u1)) (c := .dict (putD l k v)) hb fun x => ((rk.mono x).put k (v1.mono ((x2.trans x3).trans x))).rc upd_same
              have xx := (x1.trans x2).trans (x3.trans x4)
              exact w m3 _ xx r4 σ (re.mono xx)
          · cases h
        · cases h
      · cases h
    · cases h
  · cases h⟩
/-- {k: v, ..}, all of it written values -/
inductive CKs (S : SC) : List (Option Expr) → List Expr → List (Key × Val) → Prop
  | nil : CKs S [] [] []
  | cons {ke ve : Expr} {ks : List (Option Expr)} {vs : List Expr} {k : Key} {v : Val} {l : List (Key × Val)} : (∀ X, Cov S X → PE X ke (tC (kV k))) → (∀ X, Cov S X → PE X ve (tC (toV v))) → flat v = true → CKs S ks vs l → CKs S (some ke :: ks) (ve :: vs) ((k, v) :: l)
def toKs (l : List (Key × Val)) : List (Key × V) := l.map fun p => (p.1, toV p.2)
theorem CKs.pps {X : Cx} (cv : Cov S X) : ∀ {ks : List (Option Expr)} {vs : List Expr} {l : List (Key × Val)}, CKs S ks vs l → PPs X pos ks vs (l.map fun p => (tC (kV p.1), tC (toV p.2)))
  | _, _, _, .nil => pps_nil
  | _, _, _, .cons hk hv _ r => pps_cons (hk X cv) (hv X cv) (CKs.pps cv r)
theorem tPairs_c : ∀ (l : List (Key × Val)) {σ : L2.St} {H : Hp} {Q : List (V × V) → Hp → Prop}, Q ((toKs l).map fun kv => (kV kv.1, kv.2)) H → tPairs (l.map fun p => (tC (kV p.1), tC (toV p.2))) σ H Q
  | [], _, _, _, q => q
  | p :: l, σ, H, Q, q => tPairs_c l (σ := σ) (H := H) (Q := fun ps H3 => Q ((kV p.1, toV p.2) :: ps) H3) q
theorem CKs.rks {K : PySem.W.Frag} {m : Pl} {H : Hp} : ∀ {ks : List (Option Expr)} {vs : List Expr} {l : List (Key × Val)}, CKs S ks vs l → RKs K m H l (toKs l)
  | _, _, _, .nil => .nil
  | _, _, _, .cons (v := v) hk hv hf r => .cons (by cases v <;> first | exact RV.non | exact RV.bl _ | exact RV.int _ | exact RV.str _ | cases hf) (CKs.rks r)
theorem merge_nodup : ∀ (l k : List (Key × V)), ((k ++ l).map (·.1)).Nodup → mergeK k l = k ++ l
  | [], k, _ => by rw [List.append_nil]; rfl
  | p :: l, k, h => by
    have e : putK k p.1 p.2 = k ++ [p] := by
      unfold putK
      rw [if_neg]
      intro hh
      rw [List.any_eq_true] at hh
      obtain ⟨q, hq, e⟩ := hh
      rw [List.map_append, List.nodup_append] at h
      exact h.2.2 q.1 (List.mem_map_of_mem hq) p.1 (by rw [List.map_cons]; exact List.mem_cons_self) (of_decide_eq_true e)
    show mergeK (putK k p.1 p.2) l = _
    rw [e, merge_nodup l (k ++ [p]) (by rw [List.append_assoc]; exact h), List.append_assoc]
    rfl
def fDict (l : List (Key × Val)) : Ev := fun _ st => some (.ref st.length, st ++ [.dict l])
theorem se_dict {ks : List (Option Expr)} {vs : List Expr} {l : List (Key × Val)} (h : CKs S ks vs l) (hall : ks.all (·.isSome) = true) (hl : ks.length = vs.length) (h0 : ks ≠ []) (h15 : ks.length ≤ 15) (hl2 : l.length ≤ 15) (hn : (l.map (·.1)).Nodup) : SE S (.Dict ks vs pos) (fDict l) := ⟨fun env st v st' e m σ H r re Q q X cv => by
  cases e
  refine ⟨_, pe_disp (h.pps cv) hall hl h0 h15, fun p hp => tPairs_c l ⟨upd_same, toKs l, rfl, by unfold toKs; rw [List.length_map]; exact hl2, ?_⟩⟩
  have em : mergeK [] (toKs l) = toKs l := by
    rw [merge_nodup (toKs l) [] (by
      unfold toKs
      rw [List.nil_append, List.map_map]
      exact hn), List.nil_append]
  rw [em, upd_upd]
  obtain ⟨x2, r2⟩ := r.alloc (o := .dK (toKs l)) (c := .dict l) hp fun x => h.rks.rc upd_same
  refine q _ _ _ x2 r2 (.ref ?_)
  show (m.pl ++ [p])[st.length]? = some p
  rw [← r.len, List.getElem?_append_right (Nat.le_refl _), Nat.sub_self]
  rfl⟩
end
end DD

set_option Elab.async false
set_option linter.all false
set_option maxRecDepth 100000
set_option maxHeartbeats 2000000
/-! DTab: a dict of texts that stands in the module, asked by get. -/
namespace DD
open PySem PySem.Spec PyProof.Rows L2

/-- an entry of texts -/
def ent (e : DictEntry) : Option (Str × Str) := match e.key, e.val with
  | .str x _, .str y _ => some (x, y)
  | _, _ => none
theorem isStrOf_str (x y : Str) (t : Tok) : Value.isStrOf x (.str y t) = decide (y = x) := by
  by_cases h : y = x
  · subst h
    rw [decide_eq_true rfl]
    simp [Value.isStrOf]
  · rw [decide_eq_false h]
    simp [Value.isStrOf]
    exact fun e => h e
theorem find_ent (z : Str) : ∀ (es : List DictEntry) (tab : List (Str × Str)), es.map ent = tab.map some → match tab.lookup z with
    | some y => ∃ t, (es.find? fun d => Value.isStrOf z d.key).map (·.val) = some (.str y t)
    | none => (es.find? fun d => Value.isStrOf z d.key).map (·.val) = none
  | [], [], _ => rfl
  | [], _ :: _, h => by cases h
  | _ :: _, [], h => by cases h
  | e :: es, (x, y) :: tab, h => by
    have h1 : ent e = some (x, y) := (List.cons.inj h).1
    have h2 := (List.cons.inj h).2
    unfold ent at h1
    split at h1
    · rename_i x' t1 y' t2 ek ev
      cases h1
      by_cases hz : x = z
      · subst hz
        rw [List.lookup_cons_self, List.find?_cons_of_pos (by rw [ek, isStrOf_str]; exact decide_eq_true rfl)]
        exact ⟨t2, congrArg some ev⟩
      · rw [List.find?_cons_of_neg (by rw [ek, isStrOf_str]; simp [hz])]
        have e2 : List.lookup z ((x, y) :: tab) = List.lookup z tab := by
          rw [List.lookup_cons]
          have : (z == x) = false := by simpa using fun e => hz e.symm
          rw [this]
        rw [e2]
        exact find_ent z es tab h2
    · cases h1
/-- the module's name x holds such a dict -/
structure KTab (S : SC) (x : Str) (tab : List (Str × Str)) : Prop where
  gl : S.sc.names.lookup x = some .globalImplicit
  nd : (x == ("__debug__" : Str)) = false
  ok : ∃ (d : Addr) (es : Array DictEntry) (n : Nat), S.mg x = some (.ref d) ∧ S.K.lookup d = some ⟨.type "dict", none, .dict es n, #[]⟩ ∧ PySem.W.KeysLit S.w.params es.toList ∧ (d == sysModules) = false ∧ es.toList.map ent = tab.map some
def fKget (tab : List (Str × Str)) (fe : Ev) : Ev := fun env st => match fe env st with
  | some (.str z, s1) => match tab.lookup z with
    | some y => some (.str y, s1)
    | none => some (.non, s1)
  | _ => none
section
variable {S : SC}
theorem se_kget {x : Str} {p apos cpos : Pos} {e : Expr} {fe : Ev} {tab : List (Str × Str)} (k : KTab S x tab) (he : SE S e fe) (m1 : ∀ X, M1 X (.Name x p) "get" apos e cpos) : SE S (.Call (.Attribute (.Name x p) "get" apos) [e] [] cpos) (fKget tab fe) := ⟨fun env st v st' h m σ H r re Q q X cv => by
  obtain ⟨d, es, n, hm, hl, hk, low, ht⟩ := k.ok
  refine ⟨fun σ H Q => wS S e σ H fun y H1 => ∃ z, y = .str z ∧ match tab.lookup z with
    | some w => Q (.str w) H1
    | none => Q .non H1, ⟨fun pins s σ2 H2 Q2 I h2 => ?_⟩, ?_⟩
  · have M := m1 X
    refine wpAny_Call_method M.base M.few M.line PySem.F.plainAttrs_dict PySem.F.slot_dict_get PySem.F.type_dict_get (ld_glob I (cv.gl k.gl) (by rw [cv.mg]; exact hm) ?_ k.nd)
    have mo : ∀ {s' : Shared} {H' : Hp}, Inv X pins σ2 H' s' → s'.heap.MapOf (strKind X.prog X.w) d (fun k => findBy Value.isStrOf es k) := fun {s' H'} I' => PySem.W.mapOf_K (prog := X.prog) (w := X.w) I'.kIn (by rw [cv.K]; exact hl) (by rw [cv.w]; exact hk)
    refine ⟨(mo I).typeIs, fun b e' => ?_, ?_⟩
    · cases e'
      exact ⟨_, I.kIn _ _ (by rw [cv.K]; exact hl), rfl⟩
    · rw [M.trees]
      refine Calls.callWith_builtin rfl (Calls.evalArgs_plain (Calls.spliced_cons (thn ((pe_wS cv).run pins s σ2 H2 _ I h2) fun iv s2 ⟨y, H3, I3, ry, z, ey, q2⟩ => Calls.spliced_nil ?_)))
      subst ey
      obtain ⟨t, rfl⟩ := ry
      refine call_meetsIn PySem.F.slot_dict_get (mo I3).typeIs PySem.F.entry_dict_get (PySem.F.args_dict_get_2 _ _) (meets_dict_get (strKind X.prog X.w) d (strKind_is X.prog X.w z t) low) ⟨_, mo I3, ?_⟩
      have f := find_ent z es.toList tab ht
      have g : findBy Value.isStrOf es z = (es.toList.find? fun d => Value.isStrOf z d.key).map (·.val) := by
        unfold findBy
        obtain ⟨l⟩ := es
        rw [List.find?_toArray]
      cases hz : tab.lookup z with
      | none =>
        rw [hz] at f q2
        simp only at f q2
        show EP X pins σ2 Q2 ((findBy Value.isStrOf es z).getD .none) _
        rw [g, f]
        exact ⟨.non, H3, I3.tok _, rfl, q2⟩
      | some w =>
        rw [hz] at f q2
        simp only at f q2
        obtain ⟨t2, f⟩ := f
        show EP X pins σ2 Q2 ((findBy Value.isStrOf es z).getD .none) _
        rw [g, f]
        exact ⟨.str w, H3, I3.tok _, ⟨t2, rfl⟩, q2⟩
  · unfold fKget at h
    split at h
    · rename_i z s1 h1
      refine he.run env st _ s1 h1 m σ H r re _ fun m1 H1 u x1 r1 v1 => ?_
      cases v1
      refine ⟨z, rfl, ?_⟩
      cases hz : tab.lookup z with
      | none =>
        rw [hz] at h
        cases h
        exact q m1 H1 _ x1 r1 .non
      | some w =>
        rw [hz] at h
        cases h
        exact q m1 H1 _ x1 r1 (.str w)
    · cases h⟩
/-! ### -x -/
def fNeg (f : Ev) : Ev := fun env st => match f env st with
  | some (.int i, s1) => some (.int (-i), s1)
  | _ => none
theorem se_neg {a : Expr} {fa : Ev} {pos : Pos} (ha : SE S a fa) : SE S (.UnaryOp .USub a pos) (fNeg fa) := ⟨fun env st v st' e m σ H r re Q q X cv => by
  refine ⟨_, pe_un un_neg (pe_wS cv), ?_⟩
  unfold fNeg at e
  split at e
  · rename_i i s1 h1
    cases e
    exact ha.run env st _ _ h1 m σ H r re _ fun m1 H1 u x1 r1 v1 => by
      cases v1
      exact ⟨i, rfl, q m1 H1 _ x1 r1 (.int _)⟩
  · cases e⟩
end

/-! ### what is known of the module -/
structure OwnM (P : Program) (w : World) (K : PySem.W.Frag) (mg : Str → Option Value) (base : Heap) (k : Nat) (x : Str) (g : Fn) : Prop where
  ok : ∃ (f : Addr) (fd : FuncData) (ps : List Str), mg x = some (.ref f) ∧ PySem.W.keepIn K (.ref f) = true ∧ Binds K fd ps [] ∧ FnOk P w K mg base CX0 k f fd ps (spM K g)
theorem OwnM.mono {P : Program} {w : World} {K : PySem.W.Frag} {mg : Str → Option Value} {base : Heap} {j k : Nat} {x : Str} {g : Fn} (h : OwnM P w K mg base j x g) (hk : j ≤ k) : OwnM P w K mg base k x g := by
  obtain ⟨f, fd, ps, h1, h2, h3, h4⟩ := h.ok
  exact ⟨f, fd, ps, h1, h2, h3, h4.mono hk⟩
theorem OwnM.own {S : SC} {P : Program} {w : World} {K : PySem.W.Frag} {mg : Str → Option Value} {base : Heap} {x : Str} {g : Fn} {k : Nat} (h : OwnM P w K mg base k x g) (gl : S.sc.names.lookup x = some .globalImplicit) (nd : (x == ("__debug__" : Str)) = false) (hk : k ≤ S.k)
    (hs : S.P = P ∧ S.w = w ∧ S.K = K ∧ S.mg = mg ∧ S.base = base) : Own S x g := by
  obtain ⟨rfl, rfl, rfl, rfl, rfl⟩ := hs
  exact ⟨gl, nd, (h.mono hk).ok⟩
/-- a def's promise, gathered -/
theorem ownM {P : Program} {w : World} {K : PySem.W.Frag} {mg : Str → Option Value} {base : Heap} {k : Nat} {x qual : Str} {st : Stmt} {f : Addr} {fd : FuncData} {N ps : List Str} {g : Fn} {fb : Es} (F : Fun K x qual st f fd) (hm : mg x = some (.ref f)) (hb : Binds K fd ps []) (Sc : FnScope N ps (defScope st))
    (hS : SSs ⟨P, w, K, mg, base, N, defScope st, fun _ => true, k, Sc.nd⟩ (defBody st) fb) (hlen : ∀ args s r, g args s = some r → args.length = ps.length) (hg : ∀ args s v s', g args s = some (v, s') → Gives fb N args s v s') :
    OwnM P w K mg base (k + 1) x g := ⟨f, fd, ps, hm, F.kp, hb, fn_ok F Sc hS hlen hg⟩
/-- a def that changes nothing of the caller's -/
theorem Gives.pure {fb : Es} {N : List Str} {args : List Val} {st : Store} {v : Val} {env' : Slots} (h : fb (startE N args) st = some (.rt v, env', st)) (hv : cl st.length v = true) : Gives fb N args st v st := ⟨_, env', st, v, h, .inl rfl, .same hv⟩
end DD

set_option Elab.async false
set_option linter.all false
set_option maxRecDepth 100000
set_option maxHeartbeats 2000000
/-! DFin: a def as the function that its body computes. -/
namespace DD
open PySem PySem.Spec PyProof.Rows L2

mutual
/-- each place replaced -/
def mapV (f : Nat → Option Val) : Val → Option Val
  | .ref i => f i
  | .tup l => match mapVs f l with
    | some k => some (.tup k)
    | none => none
  | .lst l => match mapVs f l with
    | some k => some (.lst k)
    | none => none
  | .frz l => match mapVs f l with
    | some k => some (.frz k)
    | none => none
  | .non => some .non
  | .bl b => some (.bl b)
  | .int i => some (.int i)
  | .str x => some (.str x)
  | .ty x => some (.ty x)
def mapVs (f : Nat → Option Val) : List Val → Option (List Val)
  | [] => some []
  | v :: l => match mapV f v with
    | some w => match mapVs f l with
      | some k => some (w :: k)
      | none => none
    | none => none
end
def fz : Nat → Store → Nat → Val → Option Val
  | 0, _, n => mapV fun i => if i < n then some (.ref i) else none
  | k + 1, st, n => mapV fun i => if i < n then some (.ref i) else match st[i]? with
    | some (.list l) => match mapVs (fun j => fz k st n (.ref j)) l with
      | some l' => some (.lst l')
      | none => none
    | _ => none
section
variable {st : Store} {n : Nat} {f : Nat → Option Val}
mutual
theorem mapV_fz (hf : ∀ i w, f i = some w → Fz st n (.ref i) w) : ∀ {v v' : Val}, mapV f v = some v' → Fz st n v v'
  | .ref i, v', h => hf i v' (by unfold mapV at h; exact h)
  | .tup l, v', h => by
    unfold mapV at h
    split at h
    · rename_i k hk
      cases h
      exact .tup (mapVs_fz hf hk)
    · cases h
  | .lst l, v', h => by
    unfold mapV at h
    split at h
    · rename_i k hk
      cases h
      exact .lst (mapVs_fz hf hk)
    · cases h
  | .frz l, v', h => by
    unfold mapV at h
    split at h
    · rename_i k hk
      cases h
      exact .frz (mapVs_fz hf hk)
    · cases h
  | .non, v', h => by unfold mapV at h; cases h; exact .non
  | .bl b, v', h => by unfold mapV at h; cases h; exact .bl b
  | .int i, v', h => by unfold mapV at h; cases h; exact .int i
  | .str x, v', h => by unfold mapV at h; cases h; exact .str x
  | .ty x, v', h => by unfold mapV at h; cases h; exact .ty x
theorem mapVs_fz (hf : ∀ i w, f i = some w → Fz st n (.ref i) w) : ∀ {l l' : List Val}, mapVs f l = some l' → Fzs st n l l'
  | [], l', h => by unfold mapVs at h; cases h; exact .nil
  | v :: l, l', h => by
    unfold mapVs at h
    split at h
    · rename_i w hw
      split at h
      · rename_i k hk
        cases h
        exact .cons (mapV_fz hf hw) (mapVs_fz hf hk)
      · cases h
    · cases h
end
end
theorem fz_ref {st : Store} {n : Nat} : ∀ (k : Nat) (i : Nat) (w : Val), fz k st n (.ref i) = some w → Fz st n (.ref i) w
  | 0, i, w, h => by
    unfold fz mapV at h
    split at h
    · rename_i hi
      cases h
      exact .old hi
    · cases h
  | k + 1, i, w, h => by
    unfold fz mapV at h
    split at h
    · rename_i hi
      cases h
      exact .old hi
    · rename_i hi
      split at h
      · rename_i l hl
        split at h
        · rename_i l' hl'
          cases h
          exact .new (Nat.le_of_not_lt hi) hl (mapVs_fz (fun j w hw => fz_ref k j w hw) hl')
        · cases h
      · cases h
theorem fz_ok {st : Store} {n : Nat} {k : Nat} {v w : Val} (h : fz k st n v = some w) : Fz st n v w := by
  have key : ∀ i w, fz k st n (.ref i) = some w → Fz st n (.ref i) w := fz_ref k
  cases k with
  | zero =>
    unfold fz at h key
    exact mapV_fz (fun i w hw => key i w (by unfold mapV; exact hw)) h
  | succ k =>
    unfold fz at h key
    exact mapV_fz (fun i w hw => key i w (by unfold mapV; exact hw)) h
mutual
theorem mapV_same {f : Nat → Option Val} {n : Nat} (hf : ∀ i, i < n → f i = some (.ref i)) : ∀ {v : Val}, cl n v = true → mapV f v = some v
  | .ref i, h => by unfold cl at h; unfold mapV; exact hf i (of_decide_eq_true h)
  | .tup l, h => by unfold cl at h; unfold mapV; rw [mapVs_same hf h]
  | .lst l, h => by unfold cl at h; unfold mapV; rw [mapVs_same hf h]
  | .frz l, h => by unfold cl at h; unfold mapV; rw [mapVs_same hf h]
  | .non, _ => by unfold mapV; rfl
  | .bl _, _ => by unfold mapV; rfl
  | .int _, _ => by unfold mapV; rfl
  | .str _, _ => by unfold mapV; rfl
  | .ty _, _ => by unfold mapV; rfl
theorem mapVs_same {f : Nat → Option Val} {n : Nat} (hf : ∀ i, i < n → f i = some (.ref i)) : ∀ {l : List Val}, cls n l = true → mapVs f l = some l
  | [], _ => by unfold mapVs; rfl
  | v :: l, h => by
    unfold cls at h
    rw [Bool.and_eq_true] at h
    unfold mapVs
    rw [mapV_same hf h.1, mapVs_same hf h.2]
end
theorem fz_same {st : Store} {n k : Nat} {v : Val} (h : cl n v = true) : fz k st n v = some v := by
  cases k with
  | zero => unfold fz; exact mapV_same (fun i hi => if_pos hi) h
  | succ k => unfold fz; exact mapV_same (fun i hi => if_pos hi) h
theorem fz_new {st : Store} {n k i : Nat} {l : List Val} (hi : n ≤ i) (hl : st[i]? = some (.list l)) (hc : cls n l = true) : fz (k + 1) st n (.ref i) = some (.lst l) := by
  unfold fz mapV
  rw [if_neg (Nat.not_lt.mpr hi), hl]
  simp only
  rw [mapVs_same (n := n) (fun j hj => fz_same (by unfold cl; exact decide_eq_true hj)) hc]

/-- what may stand of the old store -/
def Kept (st s2 : Store) : Prop := st.length ≤ s2.length ∧ ∀ i, i < st.length → s2[i]? = st[i]? ∨ ∃ c, s2[i]? = some c ∧ clC st.length c = true
open Classical in
/-- the end of a body, for the caller -/
noncomputable def finB (st s2 : Store) (v : Val) : Option (Val × Store) := if Kept st s2 then match fz 6 s2 st.length v with
  | some w => some (w, s2.take st.length)
  | none => none
  else none
noncomputable def gB (fb : Es) (N : List Str) (np : Nat) : Fn := fun args st => if args.length = np then match fb (startE N args) st with
  | some (.rt v, _, s2) => finB st s2 v
  | some (.nx, _, s2) => finB st s2 .non
  | _ => none
  else none
theorem finB_fin {st s2 st' : Store} {v2 v : Val} (h : finB st s2 v2 = some (v, st')) : Fin st s2 v2 st' v := by
  unfold finB at h
  split at h
  · rename_i hk
    split at h
    · rename_i w hw
      cases h
      have hlen : (s2.take st.length).length = st.length := by rw [List.length_take]; have := hk.1; omega
      refine ⟨by rw [hlen]; exact Nat.le_refl _, by rw [hlen]; exact hk.1, fun i hi => ?_, by rw [hlen]; exact fz_ok hw⟩
      rw [hlen] at hi
      rcases hk.2 i hi with e | ⟨c, e, hc⟩
      · exact .inl ⟨hi, e, by rw [List.getElem?_take_of_lt hi]; exact e⟩
      · refine .inr ⟨c, c, e, by rw [List.getElem?_take_of_lt hi]; exact e, ?_⟩
        rw [hlen]
        cases c with
        | list l => exact Fzs.same hc
        | dict l => exact ⟨rfl, Fzs.same hc⟩
    · cases h
  · cases h
theorem gB_gives {fb : Es} {N : List Str} {np : Nat} (args : List Val) (st : Store) (v : Val) (st' : Store) (h : gB fb N np args st = some (v, st')) : Gives fb N args st v st' := by
  unfold gB at h
  split at h
  · split at h
    · rename_i v2 env2 s2 hb
      exact ⟨_, env2, s2, v2, hb, .inl rfl, finB_fin h⟩
    · rename_i env2 s2 hb
      exact ⟨_, env2, s2, .non, hb, .inr ⟨rfl, rfl⟩, finB_fin h⟩
    · cases h
  · cases h
theorem gB_len {fb : Es} {N : List Str} {np : Nat} (args : List Val) (st : Store) (r : Val × Store) (h : gB fb N np args st = some r) : args.length = np := by
  unfold gB at h
  split at h
  · assumption
  · cases h
theorem kept_app {st t : Store} : Kept st (st ++ t) := ⟨by rw [List.length_append]; omega, fun i hi => .inl (List.getElem?_append_left hi)⟩
theorem kept_set {st t : Store} {b : Nat} {c : Cell} (hc : clC st.length c = true) : Kept st (st.set b c ++ t) := ⟨by rw [List.length_append, List.length_set]; omega, fun i hi => by
  rw [List.getElem?_append_left (by rw [List.length_set]; exact hi)]
  by_cases e : b = i
  · subst e
    exact .inr ⟨c, List.getElem?_set_self hi, hc⟩
  · exact .inl (List.getElem?_set_ne e)⟩
theorem finB_app {st t : Store} {v w : Val} (h : fz 6 (st ++ t) st.length v = some w) : finB st (st ++ t) v = some (w, st) := by
  unfold finB
  rw [if_pos kept_app, h]
  simp only
  rw [List.take_left]
theorem finB_set {st t : Store} {b : Nat} {c : Cell} {v w : Val} (hc : clC st.length c = true) (h : fz 6 (st.set b c ++ t) st.length v = some w) : finB st (st.set b c ++ t) v = some (w, st.set b c) := by
  unfold finB
  rw [if_pos (kept_set hc), h]
  simp only
  rw [List.take_append_of_le_length (by rw [List.length_set]; exact Nat.le_refl _), List.take_of_length_le (by rw [List.length_set]; exact Nat.le_refl _)]
theorem cl_0 {n : Nat} {v : Val} (h : cl 0 v = true) : cl n v = true := cl_le (Nat.zero_le n) h
/-- a def that changes nothing of the caller's, and hands back data -/
theorem gB_pure {fb : Es} {N : List Str} {np : Nat} {args : List Val} {st t : Store} {v : Val} {env' : Slots} (hn : args.length = np) (h : fb (startE N args) st = some (.rt v, env', st ++ t)) (hv : cl 0 v = true) : gB fb N np args st = some (v, st) := by
  unfold gB
  rw [if_pos hn, h]
  exact finB_app (fz_same (cl_0 hv))
theorem gB_pure0 {fb : Es} {N : List Str} {np : Nat} {args : List Val} {st : Store} {v : Val} {env' : Slots} (hn : args.length = np) (h : fb (startE N args) st = some (.rt v, env', st)) (hv : cl 0 v = true) : gB fb N np args st = some (v, st) :=
  gB_pure (t := []) hn (by rw [List.append_nil]; exact h) hv
theorem gB_set {fb : Es} {N : List Str} {np : Nat} {args : List Val} {st t : Store} {v : Val} {env' : Slots} {b : Nat} {c : Cell} (hn : args.length = np) (h : fb (startE N args) st = some (.rt v, env', st.set b c ++ t)) (hv : cl 0 v = true) (hc : clC st.length c = true) : gB fb N np args st = some (v, st.set b c) := by
  unfold gB
  rw [if_pos hn, h]
  exact finB_set hc (fz_same (cl_0 hv))
theorem gB_set0 {fb : Es} {N : List Str} {np : Nat} {args : List Val} {st : Store} {v : Val} {env' : Slots} {b : Nat} {c : Cell} (hn : args.length = np) (h : fb (startE N args) st = some (.rt v, env', st.set b c)) (hv : cl 0 v = true) (hc : clC st.length c = true) : gB fb N np args st = some (v, st.set b c) :=
  gB_set (t := []) hn (by rw [List.append_nil]; exact h) hv hc
/-- the promise of the law: True for each script -/
def spL (K : PySem.W.Frag) : Sp := fun vs H Q _ => ∃ (a : Addr) (ns : List Int), vs = [.ref a] ∧ Only H ∧ SqL K H a (ns.map V.int) ∧ ns.length ≤ 63 ∧ ∀ H', Q (.bl true) H'
theorem RVs.of_ints {K : PySem.W.Frag} {m : Pl} {H : Hp} : ∀ ns : List Int, RVs K m H (ns.map Val.int) (ns.map V.int)
  | [] => .nil
  | n :: ns => .cons (.int n) (RVs.of_ints ns)
theorem spL_imp {K : PySem.W.Frag} {g : Fn} (hg : ∀ ns : List Int, ns.length ≤ 63 → ∃ st, g [.frz (ns.map Val.int)] [] = some (.bl true, st)) {vs : List V} {H : Hp} {Q : VK} {E : XK} (h : spL K vs H Q E) : spM K g vs H Q E := by
  obtain ⟨a, ns, rfl, hO, hS, hl, q⟩ := h
  obtain ⟨st, e⟩ := hg ns hl
  have r0 : RS K ⟨[], []⟩ H [] := ⟨rfl, List.nodup_nil, fun i a c h _ => by simp at h, fun a h => by simp at h, fun a h => by simp at h⟩
  suffices f0 : FrzAt K ⟨[], []⟩ H a (ns.map V.int) by
    refine ⟨⟨[], []⟩, [.frz (ns.map Val.int)], [], .bl true, st, r0, .cons (.frz f0 (.of_ints ns)) .nil, e, fun m' H' u x r v => ?_⟩
    cases v
    exact q H'
  rcases hS with (hS | hS) | hS
  · rcases hO a with h | ⟨o, xs, h⟩
    · rw [hS] at h; cases h
    · rw [hS] at h; cases h
  · exact .inl ⟨hS, fun z => by rcases z with z | z <;> cases z⟩
  · exact .inr (.inr hS)
end DD

set_option Elab.async false
set_option linter.all false
set_option maxRecDepth 100000
set_option maxHeartbeats 2000000
/-! DEv: the small machine's functions by equations that a simplifier can turn. -/
namespace DD
open PySem PySem.Spec PyProof.Rows L2
section
variable {env : Slots} {st : Store} {fa fb fc fe fo fi fv : Ev} {fr : Ea} {g gb : Et} {o o' : Op2} {f1 f2 body : Es}
theorem bind_ite {α β : Type} {c : Prop} [Decidable c] {a b : Option α} {k : α → Option β} : (if c then a else b).bind k = if c then a.bind k else b.bind k := by split <;> rfl
theorem ev_bin : fBin o fa fb env st = (fa env st).bind fun p => (fb env p.2).bind fun q => (o p.1 q.1 q.2).bind fun z => some (z, q.2) := by
  unfold fBin
  cases fa env st with
  | none => rfl
  | some p => cases h : fb env p.2 with
    | none => simp only [h, Option.bind_some, Option.bind_none]
    | some q => cases h2 : o p.1 q.1 q.2 <;> simp only [h, h2, Option.bind_some, Option.bind_none]
theorem ev_ix : fIx o fa fb env st = (fa env st).bind fun p => (fb env p.2).bind fun q => (o p.1 q.1 q.2).bind fun z => some (z, q.2) := by
  unfold fIx
  cases fa env st with
  | none => rfl
  | some p => cases h : fb env p.2 with
    | none => simp only [h, Option.bind_some, Option.bind_none]
    | some q => cases h2 : o p.1 q.1 q.2 <;> simp only [h, h2, Option.bind_some, Option.bind_none]
theorem ev_and : fAnd fa fb env st = (fa env st).bind fun p => match p.1 with
    | .bl b => if b = true then fb env p.2 else some (.bl false, p.2)
    | _ => none := by
  unfold fAnd
  cases fa env st with
  | none => rfl
  | some p =>
    obtain ⟨x, s⟩ := p
    cases x with
    | bl b => cases b <;> rfl
    | _ => rfl
theorem ev_or : fOr fa fb env st = (fa env st).bind fun p => match p.1 with
    | .bl b => if b = true then some (.bl true, p.2) else fb env p.2
    | _ => none := by
  unfold fOr
  cases fa env st with
  | none => rfl
  | some p =>
    obtain ⟨x, s⟩ := p
    cases x with
    | bl b => cases b <;> rfl
    | _ => rfl
theorem ev_not : fNot fa env st = (fa env st).bind fun p => match p.1 with
    | .bl b => some (.bl (!b), p.2)
    | _ => none := by
  unfold fNot
  cases fa env st with
  | none => rfl
  | some p =>
    obtain ⟨x, s⟩ := p
    cases x <;> rfl
theorem ev_neg : fNeg fa env st = (fa env st).bind fun p => match p.1 with
    | .int i => some (.int (-i), p.2)
    | _ => none := by
  unfold fNeg
  cases fa env st with
  | none => rfl
  | some p =>
    obtain ⟨x, s⟩ := p
    cases x <;> rfl
theorem ev_tV : tV fa env st = (fa env st).bind fun p => match p.1 with
    | .bl b => some (b, p.2)
    | _ => none := by
  unfold tV
  cases fa env st with
  | none => rfl
  | some p =>
    obtain ⟨x, s⟩ := p
    cases x <;> rfl
theorem ev_tand : tAnd2 g gb env st = (g env st).bind fun p => if p.1 = true then gb env p.2 else some (false, p.2) := by
  unfold tAnd2
  cases g env st with
  | none => rfl
  | some p =>
    obtain ⟨x, s⟩ := p
    cases x <;> rfl
theorem ev_tor : tOr2 g gb env st = (g env st).bind fun p => if p.1 = true then some (true, p.2) else gb env p.2 := by
  unfold tOr2
  cases g env st with
  | none => rfl
  | some p =>
    obtain ⟨x, s⟩ := p
    cases x <;> rfl
theorem ev_tnot : tNot2 g env st = (g env st).bind fun p => some (!p.1, p.2) := by
  unfold tNot2
  cases g env st <;> rfl
theorem ev_if : fIf g fa fb env st = (g env st).bind fun p => if p.1 = true then fa env p.2 else fb env p.2 := by
  unfold fIf
  cases g env st with
  | none => rfl
  | some p =>
    obtain ⟨x, s⟩ := p
    cases x <;> rfl
theorem ev_chain : fChain o o' fa fb fc env st = (fa env st).bind fun p => (fb env p.2).bind fun q => (o p.1 q.1 q.2).bind fun z => match z with
    | .bl b => if b = true then (fc env q.2).bind fun r => (o' q.1 r.1 r.2).bind fun w => some (w, r.2) else some (.bl false, q.2)
    | _ => none := by
  unfold fChain
  cases fa env st with
  | none => rfl
  | some p =>
    obtain ⟨x, s1⟩ := p
    simp only [Option.bind_some]
    cases fb env s1 with
    | none => rfl
    | some q =>
      obtain ⟨y, s2⟩ := q
      simp only [Option.bind_some]
      cases o x y s2 with
      | none => rfl
      | some z => cases z with
        | bl b => cases b with
          | false => rfl
          | true =>
            simp only [Option.bind_some, if_true]
            cases fc env s2 with
            | none => rfl
            | some r =>
              obtain ⟨z, s3⟩ := r
              simp only [Option.bind_some]
              cases o' y z s3 <;> rfl
        | _ => rfl
theorem ev_acons : aCons fa fr env st = (fa env st).bind fun p => (fr env p.2).bind fun q => some (p.1 :: q.1, q.2) := by
  unfold aCons
  cases fa env st with
  | none => rfl
  | some p =>
    obtain ⟨x, s1⟩ := p
    simp only [Option.bind_some]
    cases fr env s1 <;> rfl
theorem ev_tup : fTup fr env st = (fr env st).bind fun p => if p.1.length ≤ 4096 then some (.tup p.1, p.2) else none := by
  unfold fTup
  cases fr env st <;> rfl
theorem ev_lst : fLst fr env st = (fr env st).bind fun p => if p.1.length ≤ 4096 then some (.lst p.1, p.2) else none := by
  unfold fLst
  cases fr env st <;> rfl
theorem ev_new : fNew fr env st = (fr env st).bind fun p => if p.1.length ≤ 4096 then some (.ref p.2.length, p.2 ++ [.list p.1]) else none := by
  unfold fNew
  cases fr env st <;> rfl
theorem ev_call {h : Fn} : fCall h fr env st = (fr env st).bind fun p => h p.1 p.2 := by
  unfold fCall
  cases fr env st <;> rfl
theorem ev_osome : oSome fa env st = (fa env st).bind fun p => match p.1 with
    | .int i => some (some i, p.2)
    | _ => none := by
  unfold oSome
  cases fa env st with
  | none => rfl
  | some p =>
    obtain ⟨x, s⟩ := p
    cases x <;> rfl
theorem ev_sl {c : Val → Option Int → Option Int → Store → Option Val} {fl fh : Eo} : fSl c fa fl fh env st = (fa env st).bind fun p => (fl env p.2).bind fun q => (fh env q.2).bind fun r => (c p.1 q.1 r.1 r.2).bind fun z => some (z, r.2) := by
  unfold fSl
  cases fa env st with
  | none => rfl
  | some p =>
    obtain ⟨x, s1⟩ := p
    simp only [Option.bind_some]
    cases fl env s1 with
    | none => rfl
    | some q =>
      obtain ⟨y, s2⟩ := q
      simp only [Option.bind_some]
      cases fh env s2 with
      | none => rfl
      | some r =>
        obtain ⟨z, s3⟩ := r
        simp only [Option.bind_some]
        cases c x y z s3 <;> rfl
theorem ev_meth {T : String} {h : Val → Fn} : fMeth T h fo fr env st = (fo env st).bind fun p => if recv T p.1 p.2 = true then (fr env p.2).bind fun q => h p.1 q.1 q.2 else none := by
  unfold fMeth
  cases fo env st with
  | none => rfl
  | some p =>
    obtain ⟨x, s1⟩ := p
    simp only [Option.bind_some]
    split
    · cases fr env s1 <;> rfl
    · rfl
theorem ev_kget {tab : List (Str × Str)} : fKget tab fe env st = (fe env st).bind fun p => match p.1 with
    | .str z => match tab.lookup z with
      | some y => some (.str y, p.2)
      | none => some (.non, p.2)
    | _ => none := by
  unfold fKget
  cases fe env st with
  | none => rfl
  | some p =>
    obtain ⟨x, s⟩ := p
    cases x <;> rfl
theorem ev_comp {vs : List Nat} {t : Tg} {it : Ei} : fComp vs t it g fe env st = (it env st).bind fun p => if p.1.length ≤ 4096 then (loopC t g fe (wipeE env vs) p.1 p.2).bind fun q => some (.lst q.1, q.2) else none := by
  unfold fComp
  cases it env st with
  | none => rfl
  | some p =>
    obtain ⟨x, s1⟩ := p
    simp only [Option.bind_some]
    split
    · cases loopC t g fe (wipeE env vs) x s1 <;> rfl
    · rfl
theorem ev_compN {vs : List Nat} {t : Tg} {it : Ei} : fCompN vs t it g fe env st = (it env st).bind fun p => if p.1.length ≤ 4096 then (loopC t g fe (wipeE env vs) p.1 p.2).bind fun q => some (.ref q.2.length, q.2 ++ [.list q.1]) else none := by
  unfold fCompN
  cases it env st with
  | none => rfl
  | some p =>
    obtain ⟨x, s1⟩ := p
    simp only [Option.bind_some]
    split
    · cases loopC t g fe (wipeE env vs) x s1 <;> rfl
    · rfl
theorem ev_iseq : iSeq fe env st = (fe env st).bind fun p => match p.1 with
    | .tup l => some (l, p.2)
    | .lst l => some (l, p.2)
    | .frz l => some (l, p.2)
    | _ => none := by
  unfold iSeq
  cases fe env st with
  | none => rfl
  | some p =>
    obtain ⟨x, s⟩ := p
    cases x <;> rfl
theorem ev_range1 : iRange1 fr env st = (fr env st).bind fun p => match p.1 with
    | [.int j] => if -4096 ≤ j ∧ j ≤ 4096 then some (rng 0 j.toNat, p.2) else none
    | _ => none := by
  unfold iRange1
  cases fr env st with
  | none => rfl
  | some p =>
    obtain ⟨x, s⟩ := p
    simp only [Option.bind_some]
    split <;> split <;> simp_all
theorem ev_seq : xSeq f1 f2 env st = (f1 env st).bind fun r => match r.1 with
    | .nx => f2 r.2.1 r.2.2
    | _ => some r := by
  unfold xSeq
  cases f1 env st with
  | none => rfl
  | some r =>
    obtain ⟨o, e, s⟩ := r
    cases o <;> rfl
theorem ev_set {t : Tg} : xSet t fe env st = (fe env st).bind fun p => (eT t p.1 env).bind fun e1 => some (.nx, e1, p.2) := by
  unfold xSet
  cases fe env st with
  | none => rfl
  | some p =>
    obtain ⟨x, s⟩ := p
    simp only [Option.bind_some]
    cases eT t x env <;> rfl
theorem ev_drop : xDrop fe env st = (fe env st).bind fun p => some (.nx, env, p.2) := by
  unfold xDrop
  cases fe env st <;> rfl
theorem ev_ret : xRet fe env st = (fe env st).bind fun p => some (.rt p.1, env, p.2) := by
  unfold xRet
  cases fe env st <;> rfl
theorem ev_xif : xIf g f1 f2 env st = (g env st).bind fun p => if p.1 = true then f1 env p.2 else f2 env p.2 := by
  unfold xIf
  cases g env st with
  | none => rfl
  | some p =>
    obtain ⟨x, s⟩ := p
    cases x <;> rfl
theorem ev_for {t : Tg} {it : Ei} : xFor t it body env st = (it env st).bind fun p => loopF t body p.1 env p.2 := by
  unfold xFor
  cases it env st <;> rfl
theorem ev_loopF_nil {t : Tg} : loopF t body [] env st = some (.nx, env, st) := rfl
theorem ev_loopF {t : Tg} {v : Val} {l : List Val} : loopF t body (v :: l) env st = (eT t v env).bind fun e1 => (body e1 st).bind fun r => match r.1 with
    | .nx => loopF t body l r.2.1 r.2.2
    | .ct => loopF t body l r.2.1 r.2.2
    | .bk => some (.nx, r.2.1, r.2.2)
    | .rt w => some (.rt w, r.2.1, r.2.2) := by
  rw [loopF]
  cases eT t v env with
  | none => rfl
  | some e1 =>
    simp only [Option.bind_some]
    cases body e1 st with
    | none => rfl
    | some r =>
      obtain ⟨o, e, s⟩ := r
      cases o <;> rfl
theorem ev_loopC_nil {t : Tg} : loopC t g fe env [] st = some ([], st) := rfl
theorem ev_loopC {t : Tg} {v : Val} {l : List Val} : loopC t g fe env (v :: l) st = (eT t v env).bind fun e1 => (g e1 st).bind fun p => if p.1 = true then (fe e1 p.2).bind fun q => (loopC t g fe env l q.2).bind fun r => some (q.1 :: r.1, r.2) else loopC t g fe env l p.2 := by
  rw [loopC]
  cases eT t v env with
  | none => rfl
  | some e1 =>
    simp only [Option.bind_some]
    cases g e1 st with
    | none => rfl
    | some p =>
      obtain ⟨b, s1⟩ := p
      cases b with
      | false => rfl
      | true =>
        simp only [Option.bind_some, if_true]
        cases fe e1 s1 with
        | none => rfl
        | some q =>
          obtain ⟨y, s2⟩ := q
          simp only [Option.bind_some]
          cases loopC t g fe env l s2 <;> rfl
theorem ev_zip : iZip fr env st = (fr env st).bind fun p => match p.1 with
    | [a, b] => (walked a).bind fun l => (walked b).bind fun k => some (List.zipWith (fun x y => Val.tup [x, y]) l k, p.2)
    | _ => none := by
  unfold iZip
  cases fr env st with
  | none => rfl
  | some p =>
    obtain ⟨x, s⟩ := p
    simp only [Option.bind_some]
    split
    · rename_i a b t h
      cases h
      simp only
      cases walked a with
      | none => rfl
      | some l => cases walked b <;> rfl
    · rename_i h
      split
      · rename_i a b
        exact absurd rfl (h a b s)
      · rfl
theorem ev_enum : iEnumV fr env st = (fr env st).bind fun p => match p.1 with
    | [a] => (walked a).bind fun l => some (List.zipWith (fun x y => Val.tup [x, y]) ((List.range l.length).map fun i : Nat => Val.int (i : Int)) l, p.2)
    | _ => none := by
  unfold iEnumV
  cases fr env st with
  | none => rfl
  | some p =>
    obtain ⟨x, s⟩ := p
    simp only [Option.bind_some]
    split
    · rename_i a t h
      cases h
      simp only
      cases walked a <;> rfl
    · rename_i h
      split
      · rename_i a
        exact absurd rfl (h a s)
      · rfl
theorem ev_text : iText fe env st = (fe env st).bind fun p => match p.1 with
    | .str x => some (signsV x, p.2)
    | _ => none := by
  unfold iText
  cases fe env st with
  | none => rfl
  | some p =>
    obtain ⟨x, s⟩ := p
    cases x <;> rfl
theorem ev_range2 : iRange2 fr env st = (fr env st).bind fun p => match p.1 with
    | [.int i, .int j] => if (-4096 ≤ i ∧ i ≤ 4096) ∧ -4096 ≤ j ∧ j ≤ 4096 then some (rng i (j - i).toNat, p.2) else none
    | _ => none := by
  unfold iRange2
  cases fr env st with
  | none => rfl
  | some p =>
    obtain ⟨x, s⟩ := p
    simp only [Option.bind_some]
    split <;> split <;> simp_all
theorem ev_sub : xSub fv fo fi env st = (fv env st).bind fun p => (fo env p.2).bind fun q => match q.1 with
    | .ref b => (fi env q.2).bind fun r => match r.1 with
      | .int k => match r.2[b]? with
        | some (.list l) => (ixN l.length k).bind fun j => some (.nx, env, r.2.set b (.list (l.set j p.1)))
        | _ => none
      | _ => none
    | _ => none := by
  unfold xSub
  cases fv env st with
  | none => rfl
  | some p =>
    obtain ⟨v, s1⟩ := p
    simp only [Option.bind_some]
    cases fo env s1 with
    | none => rfl
    | some q =>
      obtain ⟨x, s2⟩ := q
      cases x with
      | ref b =>
        simp only [Option.bind_some]
        cases fi env s2 with
        | none => rfl
        | some r =>
          obtain ⟨y, s3⟩ := r
          cases y with
          | int k =>
            simp only [Option.bind_some]
            cases s3[b]? with
            | none => rfl
            | some c => cases c with
              | list l => simp only; cases ixN l.length k <;> rfl
              | dict l => rfl
          | _ => rfl
      | _ => rfl
theorem ev_dput : xDput fv fo fi env st = (fv env st).bind fun p => (fo env p.2).bind fun q => match q.1 with
    | .ref b => (fi env q.2).bind fun r => match r.2[b]? with
      | some (.dict l) => (keyOf r.1).bind fun k => if l.length < 100000 then some (.nx, env, r.2.set b (.dict (putD l k p.1))) else none
      | _ => none
    | _ => none := by
  unfold xDput
  cases fv env st with
  | none => rfl
  | some p =>
    obtain ⟨v, s1⟩ := p
    simp only [Option.bind_some]
    cases fo env s1 with
    | none => rfl
    | some q =>
      obtain ⟨x, s2⟩ := q
      cases x with
      | ref b =>
        simp only [Option.bind_some]
        cases fi env s2 with
        | none => rfl
        | some r =>
          obtain ⟨y, s3⟩ := r
          simp only [Option.bind_some]
          cases s3[b]? with
          | none => rfl
          | some c => cases c with
            | list l => rfl
            | dict l => simp only; cases keyOf y <;> rfl
      | _ => rfl
/-- a comprehension whose elements are told and leave the store -/
theorem loopC_map {t : Tg} (h : Val → Val) : ∀ {l : List Val}, (∀ v ∈ l, ∃ e1, eT t v env = some e1 ∧ fe e1 st = some (h v, st)) → loopC t cYes fe env l st = some (l.map h, st)
  | [], _ => rfl
  | v :: l, hl => by
    obtain ⟨e1, h1, h2⟩ := hl v List.mem_cons_self
    rw [ev_loopC, h1]
    simp only [Option.bind_some]
    show (some (true, st)).bind _ = _
    simp only [Option.bind_some, if_true, h2]
    rw [loopC_map h fun w hw => hl w (List.mem_cons_of_mem _ hw)]
    rfl
theorem loopC_filter {t : Tg} (p : Val → Bool) (h : Val → Val) : ∀ {l : List Val}, (∀ v ∈ l, ∃ e1, eT t v env = some e1 ∧ g e1 st = some (p v, st) ∧ (p v = true → fe e1 st = some (h v, st))) → loopC t g fe env l st = some ((l.filter p).map h, st)
  | [], _ => rfl
  | v :: l, hl => by
    obtain ⟨e1, h1, h2, h3⟩ := hl v List.mem_cons_self
    rw [ev_loopC, h1]
    simp only [Option.bind_some, h2]
    have ih := loopC_filter p h fun w hw => hl w (List.mem_cons_of_mem _ hw)
    cases hp : p v with
    | true =>
      simp only [if_true, h3 hp, Option.bind_some, ih]
      rw [List.filter_cons_of_pos hp]
      rfl
    | false =>
      simp only [Bool.false_eq_true, if_false, ih]
      rw [List.filter_cons_of_neg (by rw [hp]; exact Bool.false_ne_true)]
/-- a loop that comes through, by what holds between its turns -/
theorem loopF_inv {t : Tg} (I : Nat → Slots → Store → Prop) : ∀ {l : List Val} {k : Nat} {env : Slots} {st : Store}, I k env st → (∀ i v env st, l[i]? = some v → I (k + i) env st → ∃ e1 env' st', eT t v env = some e1 ∧ (body e1 st = some (.nx, env', st') ∨ body e1 st = some (.ct, env', st')) ∧ I (k + i + 1) env' st') →
    ∃ env' st', loopF t body l env st = some (.nx, env', st') ∧ I (k + l.length) env' st'
  | [], k, env, st, h, _ => ⟨env, st, rfl, h⟩
  | v :: l, k, env, st, h, hs => by
    obtain ⟨e1, env1, st1, h1, h2, h3⟩ := hs 0 v env st rfl h
    obtain ⟨env2, st2, h4, h5⟩ := loopF_inv I (l := l) (k := k + 1) h3 fun i w en s hw hi => by
      obtain ⟨a, b, c, d⟩ := hs (i + 1) w en s (by simpa using hw) (by rw [show k + (i + 1) = k + 1 + i by omega]; exact hi)
      exact ⟨a, b, c, d.1, d.2.1, by rw [show k + 1 + i + 1 = k + (i + 1) + 1 by omega]; exact d.2.2⟩
    refine ⟨env2, st2, ?_, by rw [List.length_cons, show k + (l.length + 1) = k + 1 + l.length by omega]; exact h5⟩
    rw [ev_loopF, h1]
    simp only [Option.bind_some]
    rcases h2 with h2 | h2
    · rw [h2]
      exact h4
    · rw [h2]
      exact h4
/-- a search: through, or out with an answer -/
theorem loopF_search {t : Tg} {w : Val} (p : Val → Bool) (I : Slots → Prop) : ∀ {l : List Val} {env : Slots}, I env → (∀ v ∈ l, ∀ env, I env → ∃ e1 env', eT t v env = some e1 ∧ I env' ∧ body e1 st = some (if p v = true then .nx else .rt w, env', st)) →
    ∃ env', I env' ∧ loopF t body l env st = some (if l.all p = true then .nx else .rt w, env', st)
  | [], env, h, _ => ⟨env, h, rfl⟩
  | v :: l, env, h, hs => by
    obtain ⟨e1, env1, h1, h2, h3⟩ := hs v List.mem_cons_self env h
    rw [ev_loopF, h1]
    simp only [Option.bind_some, h3]
    cases hp : p v with
    | true =>
      obtain ⟨env2, h4, h5⟩ := loopF_search p I h2 fun x hx => hs x (List.mem_cons_of_mem _ hx)
      refine ⟨env2, h4, ?_⟩
      simp only [if_true]
      rw [h5, List.all_cons, hp, Bool.true_and]
    | false =>
      refine ⟨env1, h2, ?_⟩
      rw [List.all_cons, hp, Bool.false_and]
      rfl

/-! ### the end of a body -/
noncomputable def fin3 (st : Store) (r : Option (Out × Slots × Store)) : Option (Val × Store) := r.bind fun r => match r.1 with
  | .rt v => finB st r.2.2 v
  | .nx => finB st r.2.2 .non
  | _ => none
theorem gB_eq {fb : Es} {N : List Str} {np : Nat} {args : List Val} (h : args.length = np) : gB fb N np args st = fin3 st (fb (startE N args) st) := by
  unfold gB fin3
  rw [if_pos h]
  cases fb (startE N args) st with
  | none => rfl
  | some r =>
    obtain ⟨o, e, s⟩ := r
    cases o <;> rfl
theorem fin3_rt {v : Val} {s2 : Store} : fin3 st (some (.rt v, env, s2)) = finB st s2 v := rfl
theorem fin3_nx {s2 : Store} : fin3 st (some (.nx, env, s2)) = finB st s2 .non := rfl
theorem fin3_ite {c : Prop} [Decidable c] {a b : Option (Out × Slots × Store)} : fin3 st (if c then a else b) = if c then fin3 st a else fin3 st b := by split <;> rfl
theorem finB_0 {v : Val} (h : cl 0 v = true) : finB st st v = some (v, st) := by
  have := finB_app (st := st) (t := []) (v := v) (w := v) (by rw [List.append_nil]; exact fz_same (cl_0 h))
  rwa [List.append_nil] at this
theorem finB_1 {t : Store} {v : Val} (h : cl 0 v = true) : finB st (st ++ t) v = some (v, st) := finB_app (fz_same (cl_0 h))
end
end DD

set_option Elab.async false
set_option linter.all false
set_option maxRecDepth 100000
set_option maxHeartbeats 2000000
/-! DLem: values of the built-in calls, written out. -/
namespace DD
open PySem PySem.Spec PyProof.Rows L2
section
variable {st : Store} {l k : List Val} {i j : Int} {x y : Str} {b c : Bool}
theorem vIx_tup : vIx (.tup l) (.int i) st = atI l i := rfl
theorem vIx_lst : vIx (.lst l) (.int i) st = atI l i := rfl
theorem vIx_frz : vIx (.frz l) (.int i) st = atI l i := rfl
theorem vIx_ref {n : Nat} (h : st[n]? = some (.list l)) : vIx (.ref n) (.int i) st = atI l i := by
  show (match itemsOf (.ref n) st with | some l => atI l i | none => none) = _
  unfold itemsOf
  simp only [h]
theorem gLen_tup : gLen [.tup l] st = some (.int l.length, st) := rfl
theorem gLen_lst : gLen [.lst l] st = some (.int l.length, st) := rfl
theorem gLen_frz : gLen [.frz l] st = some (.int l.length, st) := rfl
theorem gLen_ref {n : Nat} (h : st[n]? = some (.list l)) : gLen [.ref n] st = some (.int l.length, st) := by
  show (match itemsOf (.ref n) st with | some l => some (Val.int l.length, st) | none => none) = _
  unfold itemsOf
  simp only [h]
theorem gLen_str (h : x.length ≤ 4096) : gLen [.str x] st = some (.int x.length, st) := if_pos h
theorem gTuple_tup : gTuple [.tup l] st = some (.tup l, st) := rfl
theorem gTuple_lst : gTuple [.lst l] st = some (.tup l, st) := rfl
theorem gTuple_ref {n : Nat} (h : st[n]? = some (.list l)) : gTuple [.ref n] st = some (.tup l, st) := by
  show (match itemsOf (.ref n) st with | some l => some (Val.tup l, st) | none => none) = _
  unfold itemsOf
  simp only [h]
theorem gList_tup : gList [.tup l] st = some (.lst l, st) := rfl
theorem gList_lst : gList [.lst l] st = some (.lst l, st) := rfl
theorem gInt_int : gInt [.int i] st = some (.int i, st) := rfl
theorem gInt_bl : gInt [.bl b] st = some (.int (if b = true then 1 else 0), st) := rfl
theorem blsOf_map (f : Val → Bool) : ∀ l : List Val, blsOf (l.map fun v => Val.bl (f v)) = some (l.map f)
  | [] => rfl
  | v :: l => by
    show (match blsOf (l.map fun v => Val.bl (f v)) with | some bs => some (f v :: bs) | none => none) = _
    rw [blsOf_map f l]
    rfl
theorem gAll_map (f : Val → Bool) : gAll [.lst (l.map fun v => Val.bl (f v))] st = some (.bl (l.all f), st) := by
  show (match blsOf (l.map fun v => Val.bl (f v)) with | some bs => some (Val.bl (bs.all id), st) | none => none) = _
  rw [blsOf_map]
  simp only [List.all_map]
  rfl
/-! isinstance -/
theorem kit_tab : kitB "int" "int" = some true ∧ kitB "bool" "int" = some true ∧ kitB "str" "int" = some false ∧ kitB "tuple" "int" = some false ∧ kitB "list" "int" = some false ∧ kitB "NoneType" "int" = some false ∧
    kitB "int" "bool" = some false ∧ kitB "bool" "bool" = some true ∧ kitB "str" "bool" = some false ∧ kitB "tuple" "bool" = some false ∧ kitB "list" "bool" = some false ∧ kitB "NoneType" "bool" = some false ∧
    kitB "int" "str" = some false ∧ kitB "bool" "str" = some false ∧ kitB "str" "str" = some true ∧ kitB "tuple" "str" = some false ∧ kitB "list" "str" = some false ∧ kitB "NoneType" "str" = some false ∧
    kitB "int" "tuple" = some false ∧ kitB "bool" "tuple" = some false ∧ kitB "str" "tuple" = some false ∧ kitB "tuple" "tuple" = some true ∧ kitB "list" "tuple" = some false ∧ kitB "NoneType" "tuple" = some false ∧
    kitB "int" "list" = some false ∧ kitB "bool" "list" = some false ∧ kitB "str" "list" = some false ∧ kitB "tuple" "list" = some false ∧ kitB "list" "list" = some true ∧ kitB "NoneType" "list" = some false := by decide +kernel
/-- data alone -/
def dat : Val → Bool
  | .ref _ | .ty _ => false
  | _ => true
def isInt : Val → Bool
  | .int _ | .bl _ => true
  | _ => false
def isBl : Val → Bool
  | .bl _ => true
  | _ => false
def isStr : Val → Bool
  | .str _ => true
  | _ => false
def isTup : Val → Bool
  | .tup _ => true
  | _ => false
def isLst : Val → Bool
  | .lst _ | .frz _ => true
  | _ => false
theorem gIsi_some {v : Val} {t T : String} {r : Bool} (h : tyOf v st = some t) (hk : kitB t T = some r) : gIsi [v, .ty T] st = some (.bl r, st) := by
  show (match tyOf v st with | some t => (match kitB t T with | some b => some (Val.bl b, st) | none => none) | none => none) = _
  rw [h]
  simp only [hk]
theorem gIsi_int {v : Val} (h : dat v = true) : gIsi [v, .ty "int"] st = some (.bl (isInt v), st) := by
  obtain ⟨a1, a2, a3, a4, a5, a6, _⟩ := kit_tab
  cases v <;> first | exact gIsi_some rfl a1 | exact gIsi_some rfl a2 | exact gIsi_some rfl a3 | exact gIsi_some rfl a4 | exact gIsi_some rfl a5 | exact gIsi_some rfl a6 | cases h
theorem gIsi_bool {v : Val} (h : dat v = true) : gIsi [v, .ty "bool"] st = some (.bl (isBl v), st) := by
  obtain ⟨_, _, _, _, _, _, a1, a2, a3, a4, a5, a6, _⟩ := kit_tab
  cases v <;> first | exact gIsi_some rfl a1 | exact gIsi_some rfl a2 | exact gIsi_some rfl a3 | exact gIsi_some rfl a4 | exact gIsi_some rfl a5 | exact gIsi_some rfl a6 | cases h
theorem gIsi_str {v : Val} (h : dat v = true) : gIsi [v, .ty "str"] st = some (.bl (isStr v), st) := by
  obtain ⟨_, _, _, _, _, _, _, _, _, _, _, _, a1, a2, a3, a4, a5, a6, _⟩ := kit_tab
  cases v <;> first | exact gIsi_some rfl a1 | exact gIsi_some rfl a2 | exact gIsi_some rfl a3 | exact gIsi_some rfl a4 | exact gIsi_some rfl a5 | exact gIsi_some rfl a6 | cases h
theorem gIsi_tup {v : Val} (h : dat v = true) : gIsi [v, .ty "tuple"] st = some (.bl (isTup v), st) := by
  obtain ⟨_, _, _, _, _, _, _, _, _, _, _, _, _, _, _, _, _, _, a1, a2, a3, a4, a5, a6, _⟩ := kit_tab
  cases v <;> first | exact gIsi_some rfl a1 | exact gIsi_some rfl a2 | exact gIsi_some rfl a3 | exact gIsi_some rfl a4 | exact gIsi_some rfl a5 | exact gIsi_some rfl a6 | cases h
theorem gIsi_lst {v : Val} (h : dat v = true) : gIsi [v, .ty "list"] st = some (.bl (isLst v), st) := by
  obtain ⟨_, _, _, _, _, _, _, _, _, _, _, _, _, _, _, _, _, _, _, _, _, _, _, _, a1, a2, a3, a4, a5, a6⟩ := kit_tab
  cases v <;> first | exact gIsi_some rfl a1 | exact gIsi_some rfl a2 | exact gIsi_some rfl a3 | exact gIsi_some rfl a4 | exact gIsi_some rfl a5 | exact gIsi_some rfl a6 | cases h
theorem atI_nat' {α : Type} {l : List α} {n : Nat} : atI l (n : Int) = l[n]? := by
  unfold atI ixN
  rw [if_pos (by omega)]
  by_cases h : n < l.length
  · rw [if_pos (by omega)]
    rfl
  · rw [if_neg (by omega), List.getElem?_eq_none (by omega)]
    rfl
theorem atI_zero {α : Type} {l : List α} : atI l 0 = l[0]? := atI_nat' (n := 0)
theorem atI_int {α : Type} {l : List α} {i : Int} (h : 0 ≤ i) : atI l i = l[i.toNat]? := by
  have := atI_nat' (l := l) (n := i.toNat)
  rwa [Int.toNat_of_nonneg h] at this
theorem getElem?_append_self {a : Cell} : (st ++ [a])[st.length]? = some a := by
  rw [List.getElem?_append_right (Nat.le_refl _), Nat.sub_self]
  rfl
theorem set_append_self {a b : Cell} : (st ++ [a]).set st.length b = st ++ [b] := by
  have := List.set_append_right (s := st) (t := [a]) (x := b) st.length (Nat.le_refl _)
  rw [this, Nat.sub_self]
  rfl
theorem cl_non {n : Nat} : cl n .non = true := by unfold cl; rfl
theorem cl_bl {n : Nat} : cl n (.bl b) = true := by unfold cl; rfl
theorem cl_int {n : Nat} : cl n (.int i) = true := by unfold cl; rfl
theorem cl_str {n : Nat} : cl n (.str x) = true := by unfold cl; rfl
theorem cl_tup {n : Nat} : cl n (.tup l) = cls n l := by unfold cl; rfl
theorem cl_lst {n : Nat} : cl n (.lst l) = cls n l := by unfold cl; rfl
theorem cls_nil {n : Nat} : cls n [] = true := by unfold cls; rfl
theorem cls_cons {n : Nat} {v : Val} : cls n (v :: l) = (cl n v && cls n l) := by rw [cls]
theorem cls_of {n : Nat} : ∀ {l : List Val}, (∀ v ∈ l, cl n v = true) → cls n l = true
  | [], _ => cls_nil
  | v :: l, h => by rw [cls_cons, h v List.mem_cons_self, cls_of fun w hw => h w (List.mem_cons_of_mem _ hw)]; rfl
theorem cls_append {n : Nat} : cls n (l ++ k) = (cls n l && cls n k) := by
  induction l with
  | nil => rw [List.nil_append, cls_nil, Bool.true_and]
  | cons v l ih => rw [List.cons_append, cls_cons, cls_cons, ih, Bool.and_assoc]
theorem cls_mem {n : Nat} : ∀ {l : List Val} {v : Val}, cls n l = true → v ∈ l → cl n v = true
  | w :: l, v, h, hm => by
    rw [cls_cons, Bool.and_eq_true] at h
    rcases List.mem_cons.mp hm with rfl | hm
    · exact h.1
    · exact cls_mem h.2 hm
theorem walked_tup : walked (.tup l) = some l := rfl
theorem walked_lst : walked (.lst l) = some l := rfl
theorem walked_str : walked (.str x) = some (signsV x) := rfl
theorem cutL_1 : cutL l (some 1) none = l.drop 1 := by
  unfold cutL
  rw [show HT.sIx l.length 0 (some 1) = min 1 l.length from HT.sIx_nat l.length 0 1, HT.sIx_none]
  cases l with
  | nil => rfl
  | cons x r =>
    rw [show min 1 (x :: r).length = 1 by rw [List.length_cons]; omega]
    rw [List.take_of_length_le]
    rw [List.length_drop]
    omega
end
/-- a search that knows what went before -/
theorem loopF_search2 {t : Tg} {w : Val} {body : Es} {st : Store} (p : Val → Bool) (I : Slots → Prop) (all : List Val) : ∀ {l pre : List Val} {env : Slots}, all = pre ++ l → (∀ v ∈ pre, p v = true) → I env → (∀ pre v post env, all = pre ++ v :: post → (∀ v ∈ pre, p v = true) → I env → ∃ e1 env', eT t v env = some e1 ∧ I env' ∧ body e1 st = some (if p v = true then .nx else .rt w, env', st)) →
    ∃ env', I env' ∧ loopF t body l env st = some (if l.all p = true then .nx else .rt w, env', st)
  | [], _, env, _, _, h, _ => ⟨env, h, rfl⟩
  | v :: l, pre, env, e, hp, h, hs => by
    obtain ⟨e1, env1, h1, h2, h3⟩ := hs pre v l env e hp h
    rw [ev_loopF, h1]
    simp only [Option.bind_some, h3]
    cases hv : p v with
    | true =>
      obtain ⟨env2, h4, h5⟩ := loopF_search2 p I all (l := l) (pre := pre ++ [v]) (by rw [e, List.append_assoc]; rfl) (fun x hx => by
        rcases List.mem_append.mp hx with hx | hx
        · exact hp x hx
        · rw [List.mem_singleton.mp hx]; exact hv) h2 hs
      refine ⟨env2, h4, ?_⟩
      simp only [if_true]
      rw [h5, List.all_cons, hv, Bool.true_and]
    | false =>
      refine ⟨env1, h2, ?_⟩
      rw [List.all_cons, hv, Bool.false_and]
      rfl
end DD

set_option Elab.async false
set_option linter.all false
set_option maxRecDepth 100000
set_option maxHeartbeats 2000000
/-! DCon: constants of the module that are tuples. -/
namespace DD
open PySem PySem.Spec PyProof.Rows L2
/-- what a name of the module holds is a value -/
def Con (K : PySem.W.Frag) (v : Val) (z : Value) : Prop := ∃ u, RelV u z ∧ ∀ m H, RV K m H v u
def Cons (K : PySem.W.Frag) (l : List Val) (zs : List Value) : Prop := ∃ us, Vals us zs ∧ ∀ m H, RVs K m H l us
section
variable {K : PySem.W.Frag}
theorem con_int {i : Int} {t : Tok} : Con K (.int i) (.int i t) := ⟨.int i, ⟨_, rfl⟩, fun _ _ => .int i⟩
theorem con_str {x : Str} {t : Tok} : Con K (.str x) (.str x t) := ⟨.str x, ⟨_, rfl⟩, fun _ _ => .str x⟩
theorem con_bl {b : Bool} : Con K (.bl b) (.bool b) := ⟨.bl b, rfl, fun _ _ => .bl b⟩
theorem con_non : Con K .non .none := ⟨.non, rfl, fun _ _ => .non⟩
theorem cons_nil : Cons K [] [] := ⟨[], .nil, fun _ _ => .nil⟩
theorem cons_cons {v : Val} {z : Value} {l : List Val} {zs : List Value} (h : Con K v z) (hs : Cons K l zs) : Cons K (v :: l) (z :: zs) := by
  obtain ⟨u, a, b⟩ := h
  obtain ⟨us, c, d⟩ := hs
  exact ⟨u :: us, .cons a c, fun m H => .cons (b m H) (d m H)⟩
theorem con_tup {a : Addr} {o : Obj} {its : Array Value} {n : Nat} {l : List Val} (h : K.lookup a = some o) (hc : o.cls = .type "tuple") (hd : o.data = .seq its n) (hz : its.size ≤ sizeLine) (hs : Cons K l its.toList) : Con K (.tup l) (.ref a) := by
  obtain ⟨us, c, d⟩ := hs
  exact ⟨.ref a, rfl, fun m H => .tup (.inr (.inr ⟨o, its, n, h, hc, hd, hz, c⟩)) (d m H)⟩
/-- a name of the module that holds a value -/
def HasC (K : PySem.W.Frag) (mg : Str → Option Value) (x : Str) (v : Val) : Prop := ∃ z, mg x = some z ∧ Con K v z
theorem se_con {S : SC} {x : Str} {v : Val} {pos : Pos} (hg : S.sc.names.lookup x = some .globalImplicit) (h : HasC S.K S.mg x v) (hd : (x == ("__debug__" : Str)) = false) : SE S (.Name x pos) (fC v) := by
  obtain ⟨z, hm, u, hr, hv⟩ := h
  exact se_glob hg hm hr hv hd
end
end DD

set_option Elab.async false
set_option linter.all false
set_option maxRecDepth 100000
set_option maxHeartbeats 4000000
/-! DGen: lemmas about lists, places and typed rows; drawn instructions. -/
namespace DD
open PySem L2
section
variable {st : Store} {d : Val}
theorem finB_s {b : Nat} {cc : Cell} {v : Val} (hc : clC st.length cc = true) (h : cl 0 v = true) : finB st (st.set b cc) v = some (v, st.set b cc) := by
  have := finB_set (st := st) (t := []) (b := b) (v := v) (w := v) hc (by rw [List.append_nil]; exact fz_same (cl_0 h))
  rwa [List.append_nil] at this
theorem finB_sa {b : Nat} {t : Store} {cc : Cell} {v : Val} (hc : clC st.length cc = true) (h : cl 0 v = true) : finB st (st.set b cc ++ t) v = some (v, st.set b cc) := finB_set hc (fz_same (cl_0 h))
theorem finB_2 {a b : Cell} {v : Val} (h : cl 0 v = true) : finB st ((st ++ [a]) ++ [b]) v = some (v, st) := by
  rw [List.append_assoc]
  exact finB_1 h
theorem rng_get {m q : Nat} (h : q < m) : (rng 0 m)[q]? = some (.int (q : Int)) := by
  unfold rng
  simp [h]
theorem rng_len {m : Nat} : (rng 0 m).length = m := by
  unfold rng
  simp
/-- a row of numbers -/
def nv (l : List Nat) : List Val := l.map fun i : Nat => Val.int (i : Int)
theorem rng_nv {m : Nat} : rng 0 m = nv (List.range m) := by
  unfold rng nv
  exact List.map_congr_left fun i _ => by rw [Int.zero_add]
theorem nv_len {l : List Nat} : (nv l).length = l.length := by unfold nv; rw [List.length_map]
theorem nv_get {l : List Nat} {i : Nat} : (nv l)[i]? = l[i]?.map fun x : Nat => Val.int (x : Int) := by unfold nv; rw [List.getElem?_map]
theorem nv_cons {x : Nat} {l : List Nat} : nv (x :: l) = .int (x : Int) :: nv l := rfl
theorem nv_append {l k : List Nat} : nv (l ++ k) = nv l ++ nv k := by unfold nv; rw [List.map_append]
theorem nv_cl {l : List Nat} {k : Nat} : cls k (nv l) = true := cls_of fun v hv => by
  obtain ⟨i, _, rfl⟩ := List.mem_map.mp hv
  exact cl_int
theorem set_self {i : Nat} {x : Cell} (h : st[i]? = some x) : st = st.set i x := by
  obtain ⟨h1, h2⟩ := List.getElem?_eq_some_iff.mp h
  rw [← h2, List.set_getElem_self]
theorem set_get {i : Nat} {x y : Cell} (h : st[i]? = some x) : (st.set i y)[i]? = some y := by
  obtain ⟨h1, h2⟩ := List.getElem?_eq_some_iff.mp h
  exact List.getElem?_set_self h1
theorem lt_of_get {i : Nat} {x : Cell} (h : st[i]? = some x) : i < st.length := (List.getElem?_eq_some_iff.mp h).1
theorem getL {s : Store} {m : Nat} {a : Cell} (h : s.length = m) : (s ++ [a])[m]? = some a := by subst h; exact getElem?_append_self
theorem setL {s : Store} {m : Nat} {a b : Cell} (h : s.length = m) : (s ++ [a]).set m b = s ++ [b] := by subst h; exact set_append_self
theorem getB {i : Nat} {a b : Cell} (h : i < st.length) : (st.set i a ++ [b])[i]? = some a := by
  rw [List.getElem?_append_left (by rw [List.length_set]; exact h)]
  exact List.getElem?_set_self h
theorem setB {i : Nat} {a b x : Cell} (h : i < st.length) : (st.set i a ++ [b]).set i x = st.set i x ++ [b] := by
  rw [List.set_append_left _ _ (by rw [List.length_set]; exact h), List.set_set]
theorem get2 {a b : Cell} : ((st ++ [a]) ++ [b])[st.length]? = some a := by
  rw [List.getElem?_append_left (by rw [List.length_append, List.length_singleton]; omega)]
  exact getElem?_append_self
theorem set2 {a b x : Cell} : ((st ++ [a]) ++ [b]).set st.length x = (st ++ [x]) ++ [b] := by
  rw [List.set_append_left _ _ (by rw [List.length_append, List.length_singleton]; omega), set_append_self]
theorem append_eq {i : Nat} {l : List Val} {v : Val} (h : st[i]? = some (.list l)) (h2 : l.length < 100000) : gAppend (.ref i) [v] st = some (.non, st.set i (.list (l ++ [v]))) := by
  unfold gAppend
  simp only [h]
  rw [if_pos h2]
theorem recv_of {i : Nat} {l : List Val} (h : st[i]? = some (.list l)) : recv "list" (.ref i) st = true := by
  unfold recv
  simp only [h]
  rfl
theorem items_ref {i : Nat} {l : List Val} (h : st[i]? = some (.list l)) : itemsOf (.ref i) st = some l := by
  unfold itemsOf
  simp only [h]
theorem atI_mem {l : List Val} {k : Int} (h0 : 0 ≤ k) (h : k < l.length) : ∃ v, atI l k = some v ∧ v ∈ l := by
  have hi : k.toNat < l.length := by omega
  exact ⟨_, by rw [atI_int h0, List.getElem?_eq_getElem hi], List.getElem_mem hi⟩
theorem atI_mod {l : List Val} {x : Int} (h : 0 < l.length) : ∃ v, atI l (x % (l.length : Int)) = some v ∧ v ∈ l :=
  atI_mem (Int.emod_nonneg _ (by omega)) (Int.emod_lt_of_pos _ (by omega))
theorem cutL_to {l : List Val} {p : Nat} : cutL l none (some (p : Int)) = l.take p := by
  unfold cutL
  rw [show HT.sIx l.length l.length (some (p : Int)) = min p l.length from HT.sIx_nat l.length l.length p, HT.sIx_none, List.drop_zero, Nat.sub_zero]
  rcases Nat.le_total p l.length with h | h
  · rw [Nat.min_eq_left h]
  · rw [Nat.min_eq_right h, List.take_length, List.take_of_length_le h]
theorem cutL_from {l : List Val} {p : Nat} : cutL l (some (p : Int)) none = l.drop p := by
  unfold cutL
  rw [show HT.sIx l.length 0 (some (p : Int)) = min p l.length from HT.sIx_nat l.length 0 p, HT.sIx_none]
  by_cases h : p ≤ l.length
  · rw [Nat.min_eq_left h, List.take_of_length_le (by rw [List.length_drop]; omega)]
  · rw [Nat.min_eq_right (by omega), List.drop_eq_nil_of_le (Nat.le_refl _), List.drop_eq_nil_of_le (by omega), List.take_nil]
theorem cutL_from1 {l : List Val} {p : Nat} : cutL l (some ((p : Int) + 1)) none = l.drop (p + 1) := cutL_from (p := p + 1)
theorem nat_of {x s : Int} (h : 0 < s) : ∃ k : Nat, x % s = (k : Int) ∧ (k : Int) < s := ⟨(x % s).toNat, by have := Int.emod_nonneg x (show s ≠ 0 by omega); omega, by have := Int.emod_lt_of_pos x h; have := Int.emod_nonneg x (show s ≠ 0 by omega); omega⟩
end
/-! comprehensions over typed rows -/
section
variable {g : Et} {fe : Ev} {env : Slots} {st : Store} {α : Type}
theorem loopC_filterT {t : Tg} (w : α → Val) (p : α → Bool) (h : α → Val) : ∀ {l : List α}, (∀ x ∈ l, ∃ e1, eT t (w x) env = some e1 ∧ g e1 st = some (p x, st) ∧ (p x = true → fe e1 st = some (h x, st))) → loopC t g fe env (l.map w) st = some ((l.filter p).map h, st)
  | [], _ => rfl
  | v :: l, hl => by
    obtain ⟨e1, h1, h2, h3⟩ := hl v List.mem_cons_self
    rw [List.map_cons, ev_loopC, h1]
    simp only [Option.bind_some, h2]
    have ih := loopC_filterT w p h fun w hw => hl w (List.mem_cons_of_mem _ hw)
    cases hp : p v with
    | true =>
      simp only [if_true, h3 hp, Option.bind_some, ih]
      rw [List.filter_cons_of_pos hp]
      rfl
    | false =>
      simp only [Bool.false_eq_true, if_false, ih]
      rw [List.filter_cons_of_neg (by rw [hp]; exact Bool.false_ne_true)]
theorem loopC_mapT {t : Tg} (w h : α → Val) : ∀ {l : List α}, (∀ x ∈ l, ∃ e1, eT t (w x) env = some e1 ∧ fe e1 st = some (h x, st)) → loopC t cYes fe env (l.map w) st = some (l.map h, st)
  | [], _ => rfl
  | v :: l, hl => by
    obtain ⟨e1, h1, h2⟩ := hl v List.mem_cons_self
    rw [List.map_cons, ev_loopC, h1]
    simp only [Option.bind_some]
    show (some (true, st)).bind _ = _
    simp only [Option.bind_some, if_true, h2]
    rw [loopC_mapT w h fun w hw => hl w (List.mem_cons_of_mem _ hw)]
    rfl
/-- a comprehension whose tests change the store -/
theorem loopC_subT {t : Tg} (w : α → Val) (I : Store → Prop) : ∀ {l : List α} {st : Store}, I st → (∀ x ∈ l, ∀ st, I st → ∃ e1 b st', eT t (w x) env = some e1 ∧ g e1 st = some (b, st') ∧ I st' ∧ (b = true → fe e1 st' = some (w x, st'))) → ∃ (l' : List α) (st' : Store), loopC t g fe env (l.map w) st = some (l'.map w, st') ∧ I st' ∧ l'.Sublist l
  | [], st, h, _ => ⟨[], st, rfl, h, .slnil⟩
  | v :: l, st, h, hs => by
    obtain ⟨e1, b, st1, h1, h2, h3, h4⟩ := hs v List.mem_cons_self st h
    obtain ⟨l', st', h5, h6, h7⟩ := loopC_subT w I h3 fun w hw => hs w (List.mem_cons_of_mem _ hw)
    rw [List.map_cons, ev_loopC, h1]
    simp only [Option.bind_some, h2]
    cases b with
    | true =>
      simp only [if_true, h4 rfl, Option.bind_some, h5]
      exact ⟨v :: l', st', rfl, h6, h7.cons_cons v⟩
    | false =>
      simp only [Bool.false_eq_true, if_false, h5]
      exact ⟨l', st', rfl, h6, h7.cons v⟩
/-- a comprehension whose items change the store and are of a kind -/
theorem loopC_genT {t : Tg} {β : Type} (w : β → Val) (P : Nat → β → Prop) (I : Store → Prop) : ∀ {l : List Val} {k : Nat} {st : Store}, I st → (∀ i v, l[i]? = some v → ∀ st, I st → ∃ e1 y st', eT t v env = some e1 ∧ fe e1 st = some (w y, st') ∧ I st' ∧ P (k + i) y) → ∃ (l' : List β) (st' : Store), loopC t cYes fe env l st = some (l'.map w, st') ∧ I st' ∧ l'.length = l.length ∧ ∀ i y, l'[i]? = some y → P (k + i) y
  | [], k, st, h, _ => ⟨[], st, rfl, h, rfl, fun i y e => by simp at e⟩
  | v :: l, k, st, h, hs => by
    obtain ⟨e1, y, st1, h1, h2, h3, h4⟩ := hs 0 v rfl st h
    obtain ⟨l', st', h5, h6, h7, h8⟩ := loopC_genT w P I (l := l) (k := k + 1) h3 fun i v hv s hs' => by
      obtain ⟨a, b, c, d⟩ := hs (i + 1) v (by simpa using hv) s hs'
      exact ⟨a, b, c, d.1, d.2.1, d.2.2.1, by rw [show k + 1 + i = k + (i + 1) by omega]; exact d.2.2.2⟩
    rw [ev_loopC, h1]
    simp only [Option.bind_some]
    refine ⟨y :: l', st', ?_, h6, by rw [List.length_cons, h7, List.length_cons], fun i z e => ?_⟩
    · show (some (true, st)).bind _ = _
      simp only [Option.bind_some, if_true, h2, h5]
      rfl
    · cases i with
      | zero => simp at e; subst e; exact h4
      | succ i =>
        have := h8 i z (by simpa using e)
        rwa [show k + 1 + i = k + (i + 1) by omega] at this
end
/-! == of equal data -/
mutual
/-- plain data of a depth -/
def okD : Nat → Val → Bool
  | _, .non | _, .bl _ | _, .int _ => true
  | _, .str x => PyData.strOk x
  | n + 1, .tup l | n + 1, .lst l | n + 1, .frz l => okDs n l
  | 0, .tup _ | 0, .lst _ | 0, .frz _ => false
  | _, .ref _ | _, .ty _ => false
def okDs : Nat → List Val → Bool
  | _, [] => true
  | n, v :: l => okD n v && okDs n l
end
mutual
theorem okD_is : ∀ {n : Nat} {v : Val}, okD n v = true → isD v = true
  | _, .non, _ => by simp only [isD]
  | _, .bl _, _ => by simp only [isD]
  | _, .int _, _ => by simp only [isD]
  | _, .str x, h => by simpa only [okD, isD] using h
  | n + 1, .tup l, h => by simp only [okD] at h; simpa only [isD] using okDs_is h
  | n + 1, .lst l, h => by simp only [okD] at h; simpa only [isD] using okDs_is h
  | n + 1, .frz l, h => by simp only [okD] at h; simpa only [isD] using okDs_is h
  | 0, .tup l, h => by simp only [okD] at h; cases h
  | 0, .lst l, h => by simp only [okD] at h; cases h
  | 0, .frz l, h => by simp only [okD] at h; cases h
  | _, .ref _, h => by simp only [okD] at h; cases h
  | _, .ty _, h => by simp only [okD] at h; cases h
theorem okDs_is : ∀ {n : Nat} {l : List Val}, okDs n l = true → isDs l = true
  | _, [], _ => by simp only [isDs]
  | n, v :: l, h => by
    simp only [okDs, Bool.and_eq_true] at h
    simp only [isDs, Bool.and_eq_true]
    exact ⟨okD_is h.1, okDs_is h.2⟩
end
mutual
theorem okD_dep : ∀ {n : Nat} {v : Val}, okD n v = true → (toP v).depth ≤ n
  | _, .non, _ => by simp only [toP, PyData.depth]; omega
  | _, .bl _, _ => by simp only [toP, PyData.depth]; omega
  | _, .int _, _ => by simp only [toP, PyData.depth]; omega
  | _, .str x, h => by simp only [toP, PyData.depth]; omega
  | n + 1, .tup l, h => by simp only [okD] at h; have := okDs_dep h; simp only [toP, PyData.depth]; omega
  | n + 1, .lst l, h => by simp only [okD] at h; have := okDs_dep h; simp only [toP, PyData.depth]; omega
  | n + 1, .frz l, h => by simp only [okD] at h; have := okDs_dep h; simp only [toP, PyData.depth]; omega
  | 0, .tup l, h => by simp only [okD] at h; cases h
  | 0, .lst l, h => by simp only [okD] at h; cases h
  | 0, .frz l, h => by simp only [okD] at h; cases h
  | _, .ref _, h => by simp only [okD] at h; cases h
  | _, .ty _, h => by simp only [okD] at h; cases h
theorem okDs_dep : ∀ {n : Nat} {l : List Val}, okDs n l = true → PyData.depthAll (toPs l) ≤ n
  | n, [], _ => by simp only [toPs, PyData.depthAll]; omega
  | n, v :: l, h => by
    simp only [okDs, Bool.and_eq_true] at h
    have h1 := okD_dep h.1
    have h2 := okDs_dep h.2
    simp only [toPs, PyData.depthAll]
    omega
end
theorem vEqB_refl {v : Val} {n : Nat} (h : okD n v = true) (hn : n ≤ 64) : vEqB v v = some true := by
  have hd := okD_is h
  have hp := okD_dep h
  have key : (if isD v = true ∧ isD v = true ∧ (toP v).depth ≤ 64 ∧ (toP v).depth ≤ 64 then some (PyData.eqv (toP v) (toP v)) else none) = some true := by
    rw [if_pos ⟨hd, hd, by omega, by omega⟩, SeqAt.eqv_refl _ (canLay_toP hd)]
  cases v <;> first | exact key | (show some (decide _) = _; simp)
theorem vEq_refl {v : Val} {n : Nat} {st : Store} (h : okD n v = true) (hn : n ≤ 64) : vEq v v st = some (.bl true) := by
  unfold vEq
  rw [vEqB_refl h hn]
theorem vNe_refl {v : Val} {n : Nat} {st : Store} (h : okD n v = true) (hn : n ≤ 64) : vNe v v st = some (.bl false) := by
  unfold vNe
  rw [vEqB_refl h hn]
  rfl
theorem okDs_of {n : Nat} : ∀ {l : List Val}, (∀ v ∈ l, okD n v = true) → okDs n l = true
  | [], _ => by simp only [okDs]
  | w :: l, h => by
    simp only [okDs, Bool.and_eq_true]
    exact ⟨h w List.mem_cons_self, okDs_of fun v hv => h v (List.mem_cons_of_mem _ hv)⟩
mutual
theorem okD_cl {k : Nat} : ∀ {n : Nat} {v : Val}, okD n v = true → cl k v = true
  | _, .non, _ => cl_non
  | _, .bl _, _ => cl_bl
  | _, .int _, _ => cl_int
  | _, .str x, h => cl_str
  | n + 1, .tup l, h => by simp only [okD] at h; rw [cl_tup]; exact okDs_cl h
  | n + 1, .lst l, h => by simp only [okD] at h; rw [cl_lst]; exact okDs_cl h
  | n + 1, .frz l, h => by simp only [okD] at h; unfold cl; exact okDs_cl h
  | 0, .tup l, h => by simp only [okD] at h; cases h
  | 0, .lst l, h => by simp only [okD] at h; cases h
  | 0, .frz l, h => by simp only [okD] at h; cases h
  | _, .ref _, h => by simp only [okD] at h; cases h
  | _, .ty _, h => by simp only [okD] at h; cases h
theorem okDs_cl {k : Nat} : ∀ {n : Nat} {l : List Val}, okDs n l = true → cls k l = true
  | _, [], _ => cls_nil
  | n, v :: l, h => by
    simp only [okDs, Bool.and_eq_true] at h
    rw [cls_cons, okD_cl h.1, okDs_cl h.2]; rfl
end
theorem nv_okD {l : List Nat} {n : Nat} : okDs n (nv l) = true := okDs_of fun v hv => by
  obtain ⟨i, _, rfl⟩ := List.mem_map.mp hv
  simp only [okD]
/-! in -/
theorem inV_int {i : Int} : ∀ {l : List Nat}, inV (.int i) ((nv l).map toV) = l.any fun x => decide ((x : Int) = i)
  | [] => rfl
  | x :: l => by
    show (eqV (.int (x : Int)) (.int i) || inV (.int i) ((nv l).map toV)) = _
    rw [inV_int, List.any_cons]
    congr 1
theorem nv_flat {l : List Nat} : (nv l).all flat = true := List.all_eq_true.mpr fun v hv => by
  obtain ⟨i, _, rfl⟩ := List.mem_map.mp hv
  rfl
theorem vIn_nv {x : Nat} {l : List Nat} {st : Store} : vIn (.int (x : Int)) (.tup (nv l)) st = some (.bl (decide (x ∈ l))) := by
  unfold vIn vInB
  show (match (if flat (.int (x : Int)) = true ∧ (nv l).all flat = true then some (inV (.int (x : Int)) ((nv l).map toV)) else none) with | some b => some (Val.bl b) | none => none) = _
  rw [if_pos ⟨rfl, nv_flat⟩, inV_int]
  show some (Val.bl _) = some (Val.bl _)
  congr 2
  rw [Bool.eq_iff_iff, List.any_eq_true, decide_eq_true_eq]
  constructor
  · rintro ⟨y, hy, e⟩
    have : y = x := by have := of_decide_eq_true e; omega
    exact this ▸ hy
  · exact fun h => ⟨x, h, by simp⟩
/-! drawn instructions -/
inductive Ins where
  | send (to r : Nat) | get (r : Nat) (c : List Nat) | set (r v : Nat) | add (r q : Nat) | answer (r : Nat) | test (r k : Nat)
  | new (s : Nat) | give (to s : Nat) | hold (s : Nat) (c : List Nat) | shw (r : Nat) | drop (s : Nat) | fin
def nI (i : Nat) : Val := .int (i : Int)
def sV (x : String) : Val := .str (PySem.Str.ofString x)
def Ins.val : Ins → Val
  | .send a r => .tup [sV "send", nI a, nI r]
  | .get r c => .tup [sV "get", nI r, .tup (nv c)]
  | .set r v => .tup [sV "set", nI r, nI v]
  | .add r q => .tup [sV "add", nI r, nI q]
  | .answer r => .tup [sV "answer", nI r]
  | .test r k => .tup [sV "test", nI r, nI k]
  | .new s => .tup [sV "new", nI s]
  | .give a s => .tup [sV "give", nI a, nI s]
  | .hold s c => .tup [sV "hold", nI s, .tup (nv c)]
  | .shw r => .tup [sV "show", nI r]
  | .drop s => .tup [sV "drop", nI s]
  | .fin => .tup [sV "end"]
def okCrowd (l : List Nat) (c n : Nat) : Prop := l.Pairwise (· < ·) ∧ (∀ x ∈ l, x < c ∧ x ≠ n) ∧ l ≠ []
def Ins.ok (c n : Nat) : Ins → Prop
  | .send a r => (a < c ∧ a ≠ n) ∧ r < 4
  | .get r l => r < 4 ∧ okCrowd l c n
  | .set r v => r < 4 ∧ v < 1000
  | .add r q => r < 4 ∧ q < 4
  | .answer r => r < 4
  | .test r k => r < 4 ∧ k < 9
  | .new s => s < 3
  | .give a s => (a < c ∧ a ≠ n) ∧ s < 3
  | .hold s l => s < 3 ∧ okCrowd l c n
  | .shw r => r < 4
  | .drop s => s < 3
  | .fin => True
def codeV (k : List Ins) : Val := .tup (k.map Ins.val)
def progsV (p : List (List Ins)) : Val := .tup (p.map codeV)
theorem Ins.okD {i : Ins} : DD.okD 2 i.val = true := by
  cases i <;> simp only [Ins.val, DD.okD, okDs, nI, sV, nv_okD, Bool.and_true] <;> decide +kernel
theorem codeV_okD {k : List Ins} : DD.okD 3 (codeV k) = true := by
  unfold codeV
  simp only [DD.okD]
  exact okDs_of fun v hv => by
    obtain ⟨i, _, rfl⟩ := List.mem_map.mp hv
    exact Ins.okD
theorem progsV_okD {k : List (List Ins)} : DD.okD 4 (progsV k) = true := by
  unfold progsV
  simp only [DD.okD]
  exact okDs_of fun v hv => by
    obtain ⟨i, _, rfl⟩ := List.mem_map.mp hv
    exact codeV_okD
/-- the numbers below c but n -/
def othersN (c n : Nat) : List Nat := (List.range c).filter fun x => decide (x ≠ n)
theorem others_mem {c n x : Nat} (h : x ∈ othersN c n) : x < c ∧ x ≠ n := by
  unfold othersN at h
  obtain ⟨h1, h2⟩ := List.mem_filter.mp h
  exact ⟨List.mem_range.mp h1, by simpa using h2⟩
theorem others_pair {c n : Nat} : (othersN c n).Pairwise (· < ·) := List.pairwise_lt_range.sublist List.filter_sublist
theorem others_pos {c n : Nat} (h : 2 ≤ c) : 0 < (othersN c n).length := by
  rw [List.length_pos_iff_exists_mem]
  unfold othersN
  by_cases h0 : n = 0
  · exact ⟨1, List.mem_filter.mpr ⟨List.mem_range.mpr (by omega), by simp [h0]⟩⟩
  · exact ⟨0, List.mem_filter.mpr ⟨List.mem_range.mpr (by omega), by simp; omega⟩⟩
theorem others_len {c n : Nat} : (othersN c n).length ≤ c := by
  unfold othersN
  have := List.length_filter_le (fun x => decide (x ≠ n)) (List.range c)
  rwa [List.length_range] at this
theorem crowd_sub {c n : Nat} {l : List Nat} (h : l.Sublist (othersN c n)) (hl : l ≠ []) : okCrowd l c n := ⟨others_pair.sublist h, fun x hx => others_mem (h.subset hx), hl⟩
theorem nv_mod {l : List Nat} {x : Int} (h : 0 < l.length) : ∃ v, atI (nv l) (x % (l.length : Int)) = some (nI v) ∧ v ∈ l := by
  obtain ⟨v, h1, h2⟩ := atI_mod (l := nv l) (x := x) (by rw [nv_len]; exact h)
  obtain ⟨i, hi, rfl⟩ := List.mem_map.mp h2
  rw [nv_len] at h1
  exact ⟨i, h1, hi⟩
end DD

set_option Elab.async false
set_option linter.all false
set_option maxRecDepth 100000
set_option maxHeartbeats 4000000
/-! DPs: states of processes, typed. -/
namespace DD
open PySem L2
theorem ofString_inj {a b : String} : (Str.ofString a = Str.ofString b) = (a = b) := by
  apply propext
  constructor
  · intro h
    rw [Str.ofString_eq_toList, Str.ofString_eq_toList] at h
    injection h with h
    have h2 : a.toList.map Char.toNat = b.toList.map Char.toNat := by
      have := congrArg Array.toList h
      simpa using this
    have h3 : a.toList = b.toList := by
      refine (List.map_inj_right ?_).mp h2
      intro x y e
      exact Char.ext (UInt32.toNat_inj.mp e)
    exact String.toList_inj.mp h3
  · intro h; rw [h]
section
variable {st : Store} {x a b c : Str} {l : List Val}
theorem atI_1 : atI l 1 = l[1]? := atI_nat' (n := 1)
theorem atI_2 : atI l 2 = l[2]? := atI_nat' (n := 2)
theorem atI_3 : atI l 3 = l[3]? := atI_nat' (n := 3)
theorem atI_4 : atI l 4 = l[4]? := atI_nat' (n := 4)
theorem atI_5 : atI l 5 = l[5]? := atI_nat' (n := 5)
theorem atI_6 : atI l 6 = l[6]? := atI_nat' (n := 6)
theorem eqV_str {x y : Str} : eqV (.str y) (.str x) = decide (x = y) := by
  show (y == x) = _
  by_cases h : x = y
  · subst h; simp
  · have h2 : ¬ y = x := fun e => h e.symm
    simp [h, h2]
theorem vIn_t2 : vIn (.str x) (.tup [.str a, .str b]) st = some (.bl (decide (x = a) || decide (x = b))) := by
  show some (Val.bl (eqV (.str a) (.str x) || (eqV (.str b) (.str x) || false))) = _
  rw [eqV_str, eqV_str, Bool.or_false]
theorem vIn_t3 : vIn (.str x) (.tup [.str a, .str b, .str c]) st = some (.bl (decide (x = a) || (decide (x = b) || decide (x = c)))) := by
  show some (Val.bl (eqV (.str a) (.str x) || (eqV (.str b) (.str x) || (eqV (.str c) (.str x) || false)))) = _
  rw [eqV_str, eqV_str, eqV_str, Bool.or_false]
theorem vNotIn_t2 : vNotIn (.str x) (.tup [.str a, .str b]) st = some (.bl (!(decide (x = a) || decide (x = b)))) := by
  show some (Val.bl (!(eqV (.str a) (.str x) || (eqV (.str b) (.str x) || false)))) = _
  rw [eqV_str, eqV_str, Bool.or_false]
theorem vNotIn_l2 : vNotIn (.str x) (.lst [.str a, .str b]) st = some (.bl (!(decide (x = a) || decide (x = b)))) := by
  show some (Val.bl (!(eqV (.str a) (.str x) || (eqV (.str b) (.str x) || false)))) = _
  rw [eqV_str, eqV_str, Bool.or_false]
end
/-! payloads, items, states -/
inductive Pay where
  | num (v : Nat) | obj (a b : Nat)
  deriving DecidableEq
def Pay.val : Pay → Val
  | .num v => .tup [sV "number", nI v]
  | .obj a b => .tup [sV "object", nI a, nI b]
def slotV : Option (Nat × Nat) → Val
  | none => .non
  | some (a, b) => .tup [nI a, nI b]
def optV : Option Nat → Val
  | none => .non
  | some a => nI a
def itemV (x : Nat × Pay) : Val := .tup [nI x.1, x.2.val]
structure PS where
  (at_ : Nat) (R : List Nat) (S : List (Option (Nat × Nat))) (snd : Option Nat) (box : List (Nat × Pay)) (acts made : Nat)
def PS.val (p : PS) : Val := .tup [nI p.at_, .tup (nv p.R), .tup (p.S.map slotV), optV p.snd, .tup (p.box.map itemV), nI p.acts, nI p.made]
structure PS.ok (p : PS) : Prop where
  R : p.R.length = 4
  S : p.S.length = 3
  box : p.box.length ≤ 1000
theorem Pay.okD {p : Pay} : DD.okD 1 p.val = true := by
  cases p <;> simp only [Pay.val, DD.okD, okDs, sV, nI, Bool.and_true] <;> decide +kernel
theorem slot_okD {s : Option (Nat × Nat)} : okD 1 (slotV s) = true := by
  cases s with
  | none => rfl
  | some s => rfl
theorem opt_okD {s : Option Nat} {n : Nat} : okD n (optV s) = true := by
  cases s <;> cases n <;> rfl
theorem item_okD {x : Nat × Pay} : okD 2 (itemV x) = true := by
  unfold itemV
  simp only [okD, okDs, nI, Pay.okD, Bool.and_true]
theorem okDs_map {α : Type} {w : α → Val} {n : Nat} {l : List α} (h : ∀ x, okD n (w x) = true) : okDs n (l.map w) = true := okDs_of fun v hv => by
  obtain ⟨i, _, rfl⟩ := List.mem_map.mp hv
  exact h i
theorem PS.okD {p : PS} : DD.okD 4 p.val = true := by
  unfold PS.val
  simp only [DD.okD, okDs, nI, nv_okD, okDs_map (n := 2) (fun x => show DD.okD 2 (slotV x) = true by cases x <;> rfl), okDs_map (n := 2) (fun x => item_okD), opt_okD, Bool.and_true]
def payN : Pay → Nat
  | .num v => v
  | .obj _ _ => 0
def payO : Pay → Option (Nat × Nat)
  | .num _ => none
  | .obj a b => some (a, b)
def sendV (x : Nat × Pay) : Val := .tup [nI x.1, x.2.val]
/-- the first item that comes from one of a crowd -/
def firstOf (box : List (Nat × Pay)) (c : List Nat) : Option Nat := box.findIdx? fun x => decide (x.1 ∈ c)
def crowdOf : Ins → Option (List Nat)
  | .get _ c | .hold _ c => some c
  | _ => none
def isFin : Ins → Bool
  | .fin => true
  | _ => false
/-- the next instruction, if the process has not ended -/
def nextI (k : List Ins) (p : PS) : Option Ins := match k[p.at_]? with
  | none => none
  | some i => if isFin i = true ∨ 40 ≤ p.acts then none else some i
def waitsN (k : List Ins) (p : PS) : Option (List Nat) := match nextI k p with
  | none => none
  | some i => match crowdOf i with
    | none => none
    | some c => if (firstOf p.box c).isSome then none else some c
def sentOf (i : Ins) (p : PS) : List (Nat × Pay) := match i with
  | .send a r => [(a, .num (p.R.getD r 0))]
  | .answer r => match p.snd with
    | some s => [(s, .num (p.R.getD r 0))]
    | none => []
  | .give a s => match p.S.getD s none with
    | some (x, y) => [(a, .obj x y)]
    | none => []
  | _ => []
def stepOf (n : Nat) (i : Ins) (p : PS) : PS := match i with
  | .set r v => { p with at_ := p.at_ + 1, acts := p.acts + 1, R := p.R.set r v }
  | .add r q => { p with at_ := p.at_ + 1, acts := p.acts + 1, R := p.R.set r ((p.R.getD r 0 + p.R.getD q 0) % 1000) }
  | .test r k => { p with at_ := if p.R.getD r 0 = 0 then k else p.at_ + 1, acts := p.acts + 1 }
  | .new s => { p with at_ := p.at_ + 1, acts := p.acts + 1, S := p.S.set s (some (n, p.made)), made := p.made + 1 }
  | .drop s => { p with at_ := p.at_ + 1, acts := p.acts + 1, S := p.S.set s none }
  | .get r c => match firstOf p.box c with
    | some k => match p.box[k]? with
      | some (s, y) => { p with at_ := p.at_ + 1, acts := p.acts + 1, snd := some s, box := p.box.eraseIdx k, R := p.R.set r (payN y) }
      | none => p
    | none => p
  | .hold q c => match firstOf p.box c with
    | some k => match p.box[k]? with
      | some (s, y) => { p with at_ := p.at_ + 1, acts := p.acts + 1, snd := some s, box := p.box.eraseIdx k, S := p.S.set q (payO y) }
      | none => p
    | none => p
  | _ => { p with at_ := p.at_ + 1, acts := p.acts + 1 }
theorem map_put {α : Type} {w : α → Val} {l : List α} {k : Nat} {x : α} (h : k < l.length) : (l.map w).take k ++ [w x] ++ (l.map w).drop (k + 1) = (l.set k x).map w := by
  rw [List.set_eq_take_append_cons_drop, if_pos h, List.map_append, List.map_cons, List.map_take, List.map_drop, List.append_assoc]
  rfl
theorem map_rem {α : Type} {w : α → Val} {l : List α} {k : Nat} : (l.map w).take k ++ (l.map w).drop (k + 1) = (l.eraseIdx k).map w := by
  rw [List.eraseIdx_eq_take_drop_succ, List.map_append, List.map_take, List.map_drop]
theorem nv_getD {l : List Nat} {r : Nat} (h : r < l.length) : (nv l)[r]? = some (.int ((l.getD r 0 : Nat) : Int)) := by
  rw [nv_get, List.getElem?_eq_getElem h, List.getD_eq_getElem?_getD, List.getElem?_eq_getElem h]
  rfl
theorem firstOf_some {box : List (Nat × Pay)} {c : List Nat} {k : Nat} (h : firstOf box c = some k) : ∃ s y, box[k]? = some (s, y) ∧ k < box.length := by
  obtain ⟨h1, _⟩ := List.findIdx?_eq_some_iff_getElem.mp h
  exact ⟨(box[k]).1, (box[k]).2, by rw [List.getElem?_eq_getElem h1], h1⟩
/-- a search for a place in a typed row -/
theorem findIdx_cons {α : Type} {p : α → Bool} {x : α} {l : List α} : (x :: l).findIdx? p = if p x = true then some 0 else (l.findIdx? p).map (· + 1) := List.findIdx?_cons
/-- a row of places and items -/
def idx {α : Type} (w : Nat → α → Val) : Nat → List α → List Val
  | _, [] => []
  | k, x :: l => w k x :: idx w (k + 1) l
theorem idx_enumG {α : Type} {v : α → Val} : ∀ {l : List α} {m k : Nat}, m = l.length → List.zipWith (fun x y => Val.tup [x, y]) ((List.range' k m).map fun i : Nat => Val.int (i : Int)) (l.map v) = idx (fun i x => .tup [nI i, v x]) k l
  | [], m, k, h => by subst h; rfl
  | x :: l, m, k, h => by
    subst h
    rw [List.length_cons, List.range'_succ, List.map_cons, List.map_cons, List.zipWith_cons_cons, idx_enumG rfl]
    rfl
theorem idx_enum {α : Type} {v : α → Val} {l : List α} : List.zipWith (fun x y => Val.tup [x, y]) ((List.range (l.map v).length).map fun i : Nat => Val.int (i : Int)) (l.map v) = idx (fun i x => .tup [nI i, v x]) 0 l := by
  rw [List.length_map, List.range_eq_range']
  exact idx_enumG rfl
theorem idx_rngG {α : Type} : ∀ {l : List α} {m k : Nat}, m = l.length → ((List.range' k m).map fun i : Nat => Val.int (i : Int)) = idx (fun i _ => nI i) k l
  | [], m, k, h => by subst h; rfl
  | x :: l, m, k, h => by
    subst h
    rw [List.length_cons, List.range'_succ, List.map_cons, idx_rngG rfl]
    rfl
theorem idx_rng {α : Type} {l : List α} : rng 0 l.length = idx (fun i _ => nI i) 0 l := by
  rw [rng_nv, List.range_eq_range']
  exact idx_rngG rfl
/-- a search for the first item, which tells what is at it -/
theorem loopF_findG {α : Type} {t : Tg} {body : Es} {st : Store} (w : Nat → α → Val) (p : α → Bool) (r : Nat → Val) (I : Slots → Prop) (all : List α) : ∀ {l pre : List α} {env : Slots}, all = pre ++ l → I env → (∀ i x env, all[i]? = some x → I env → ∃ e1 env', eT t (w i x) env = some e1 ∧ I env' ∧ body e1 st = some (if p x = true then .rt (r i) else .nx, env', st)) →
    ∃ env', I env' ∧ loopF t body (idx w pre.length l) env st = some (match l.findIdx? p with | some j => .rt (r (pre.length + j)) | none => .nx, env', st)
  | [], pre, env, _, h, _ => ⟨env, h, rfl⟩
  | x :: l, pre, env, e, h, hs => by
    obtain ⟨e1, env1, h1, h2, h3⟩ := hs pre.length x env (by rw [e, List.getElem?_append_right (Nat.le_refl _), Nat.sub_self]; rfl) h
    show ∃ env', I env' ∧ loopF t body (w pre.length x :: idx w (pre.length + 1) l) env st = _
    rw [ev_loopF, h1]
    simp only [Option.bind_some, h3]
    rw [findIdx_cons]
    by_cases hp : p x = true
    · rw [if_pos hp, if_pos hp]
      exact ⟨env1, h2, rfl⟩
    · rw [if_neg hp, if_neg hp]
      obtain ⟨env2, h4, h5⟩ := loopF_findG w p r I all (l := l) (pre := pre ++ [x]) (by rw [e, List.append_assoc]; rfl) h2 hs
      rw [List.length_append, List.length_singleton] at h5
      refine ⟨env2, h4, ?_⟩
      simp only [h5]
      cases l.findIdx? p with
      | none => rfl
      | some j => simp only [Option.map_some]; rw [show pre.length + 1 + j = pre.length + (j + 1) by omega]
theorem loopF_find {α : Type} {t : Tg} {body : Es} {st : Store} (w : Nat → α → Val) (p : α → Bool) (r : Nat → Val) (I : Slots → Prop) {l : List α} {env : Slots} (h : I env) (hs : ∀ i x env, l[i]? = some x → I env → ∃ e1 env', eT t (w i x) env = some e1 ∧ I env' ∧ body e1 st = some (if p x = true then .rt (r i) else .nx, env', st)) :
    ∃ env', I env' ∧ loopF t body (idx w 0 l) env st = some (match l.findIdx? p with | some j => .rt (r j) | none => .nx, env', st) := by
  obtain ⟨env', h1, h2⟩ := loopF_findG w p r I l (l := l) (pre := []) rfl h hs
  refine ⟨env', h1, ?_⟩
  have h2' : loopF t body (idx w 0 l) env st = _ := h2
  rw [h2']
  cases l.findIdx? p with
  | none => rfl
  | some j => simp only [List.length_nil, Nat.zero_add]
def crowdV : Option (List Nat) → Val
  | none => .non
  | some c => .tup (nv c)
theorem crowd_okD {c : Option (List Nat)} : okD 1 (crowdV c) = true := by
  cases c with
  | none => rfl
  | some c => simp only [crowdV, okD, nv_okD]
end DD

set_option Elab.async false
set_option linter.all false
set_option maxRecDepth 100000
set_option maxHeartbeats 4000000
namespace K02
open PySem PySem.Spec PyProof.Rows L2 DD
def topS (i : Nat) : Stmt := PySem.Challenge.pw_whatwas_k02_acts_of_processes.main.body.getD i (.Pass ⟨0, 0, 0, 0⟩)
abbrev s__law_take : Stmt := topS 20
abbrev s__law_crowd : Stmt := topS 21
abbrev s__law_instruction : Stmt := topS 22
abbrev s__law_number : Stmt := topS 19
abbrev s__law_code : Stmt := topS 23
abbrev s__law_programs : Stmt := topS 24
abbrev s__law_first : Stmt := topS 25
abbrev s__law_payload : Stmt := topS 33
abbrev s__law_state : Stmt := topS 34
abbrev s_is_ended : Stmt := topS 6
abbrev s_crowd_of : Stmt := topS 7
abbrev s_first_item : Stmt := topS 8
abbrev s_waits_for : Stmt := topS 9
abbrev s_can_act : Stmt := topS 10
abbrev s__law_sent : Stmt := topS 31
abbrev s__law_put : Stmt := topS 30
abbrev s__law_first_of : Stmt := topS 27
abbrev s__law_act : Stmt := topS 32
abbrev s_sent_by : Stmt := topS 16
abbrev s_put : Stmt := topS 11
abbrev s_act_on_registers : Stmt := topS 13
abbrev s_act_on_slots : Stmt := topS 14
abbrev s_taken : Stmt := topS 12
abbrev s_act_of_taking : Stmt := topS 15
abbrev s_act : Stmt := topS 17
abbrev s__law_ended : Stmt := topS 26
abbrev s__law_waits : Stmt := topS 28
abbrev s__law_can_act : Stmt := topS 29
abbrev s_law : Stmt := topS 35
abbrev N__law_take : List Str := ["box", "size", "digit"]
theorem sc__law_take : FnScope N__law_take ["box", "size"] (defScope s__law_take) := ⟨rfl, rfl, rfl, by decide +kernel, rfl, by decide +kernel, by decide +kernel⟩
noncomputable def b__law_take : Es :=
  (xSeq (xSet (.one 2) (fBin vMod (fCall gInt (aCons (fIx vIx (fVar 0) (fC (.int 0))) aNil)) (fVar 1)))
  (xSeq (xSub (fBin vFdiv (fIx vIx (fVar 0) (fC (.int 0))) (fVar 1)) (fVar 0) (fC (.int 0)))
  (xRet (fVar 2))))
noncomputable def g__law_take : Fn := gB b__law_take N__law_take 2
theorem gd__law_take (a0 a1 : Val) (st : Store) : g__law_take [a0, a1] st = fin3 st (b__law_take [some a0, some a1, none] st) := gB_eq rfl
theorem ss__law_take {P : Program} {w : World} {K : PySem.W.Frag} {mg : Str → Option Value} {base : Heap} (z_int : mg "int" = none) :
  SSs ⟨P, w, K, mg, base, N__law_take, defScope s__law_take, fun _ => true, 0, sc__law_take.nd⟩ (defBody s__law_take) b__law_take :=
  (ssl_cons (ss_set (tg_one 2 (by rfl) (by first | exact Or.inl rfl | exact Or.inr rfl) (by rfl)) (se_op os_mod (se_type (by exact ⟨rfl, rfl, by decide, z_int, by first | rfl | decide +kernel⟩) cs_int (sa_cons (se_ix xs_ix (se_var 0 (by rfl) (by first | exact Or.inl rfl | exact Or.inr (Or.inl rfl) | exact Or.inr (Or.inr rfl)) (by rfl) (by rfl)) se_int (fun _ _ => rfl)) sa_nil (fun _ => by rfl)) (fun _ => by rfl) (fun _ => by rfl)) (se_var 1 (by rfl) (by first | exact Or.inl rfl | exact Or.inr (Or.inl rfl) | exact Or.inr (Or.inr rfl)) (by rfl) (by rfl))) (fun _ _ => by rfl) (fun _ => by rfl) (fun _ => by rfl))
  (ssl_cons (ss_sub (se_var 0 (by rfl) (by first | exact Or.inl rfl | exact Or.inr (Or.inl rfl) | exact Or.inr (Or.inr rfl)) (by rfl) (by rfl)) se_int (se_op os_fdiv (se_ix xs_ix (se_var 0 (by rfl) (by first | exact Or.inl rfl | exact Or.inr (Or.inl rfl) | exact Or.inr (Or.inr rfl)) (by rfl) (by rfl)) se_int (fun _ _ => rfl)) (se_var 1 (by rfl) (by first | exact Or.inl rfl | exact Or.inr (Or.inl rfl) | exact Or.inr (Or.inr rfl)) (by rfl) (by rfl))) (fun _ => rfl) (fun _ => rfl) (fun _ => rfl) (fun _ _ => rfl))
  (ssl_one (ss_ret (se_var 2 (by rfl) (by first | exact Or.inl rfl | exact Or.inr (Or.inl rfl) | exact Or.inr (Or.inr rfl)) (by rfl) (by rfl))))))
theorem own__law_take {P : Program} {w : World} {K : PySem.W.Frag} {mg : Str → Option Value} {base : Heap} {fa : Addr} {fd : FuncData} (F : Fun K "_law_take" "_law_take" s__law_take fa fd) (hm : mg "_law_take" = some (.ref fa)) (z_int : mg "int" = none) : OwnM P w K mg base 1 "_law_take" g__law_take :=
  ownM F hm (F.binds (ps := ["box", "size"]) fun _ _ _ _ _ _ us hl => match us, hl with | [_, _], _ => rfl) sc__law_take (ss__law_take z_int) (fun _ _ _ h => gB_len _ _ _ h) (fun _ _ _ _ h => gB_gives _ _ _ _ h)
abbrev N__law_crowd : List Str := ["box", "count", "number", "others", "one", "chosen"]
theorem sc__law_crowd : FnScope N__law_crowd ["box", "count", "number"] (defScope s__law_crowd) := ⟨rfl, rfl, rfl, by decide +kernel, rfl, by decide +kernel, by decide +kernel⟩
noncomputable def b__law_crowd : Es :=
  (xSeq (xSet (.one 3) (fComp [4] (.one 4) (iRange1 (aCons (fVar 1) aNil)) (tV (fBin vNe (fVar 4) (fVar 2))) (fVar 4)))
  (xSeq (xSet (.one 5) (fComp [4] (.one 4) (iSeq (fVar 3)) (tV (fBin vGt (fCall g__law_take (aCons (fVar 0) (aCons (fC (.int 3)) aNil))) (fC (.int 0)))) (fVar 4)))
  (xSeq (xIf (tV (fBin vEq (fCall gLen (aCons (fVar 5) aNil)) (fC (.int 0)))) (xSet (.one 5) (fLst (aCons (fIx vIx (fVar 3) (fCall g__law_take (aCons (fVar 0) (aCons (fCall gLen (aCons (fVar 3) aNil)) aNil)))) aNil))) xNil)
  (xRet (fCall gTuple (aCons (fVar 5) aNil))))))
noncomputable def g__law_crowd : Fn := gB b__law_crowd N__law_crowd 3
theorem gd__law_crowd (a0 a1 a2 : Val) (st : Store) : g__law_crowd [a0, a1, a2] st = fin3 st (b__law_crowd [some a0, some a1, some a2, none, none, none] st) := gB_eq rfl
theorem ss__law_crowd {P : Program} {w : World} {K : PySem.W.Frag} {mg : Str → Option Value} {base : Heap} (z_range : mg "range" = none) (o__law_take : OwnM P w K mg base 1 "_law_take" g__law_take) (z_len : mg "len" = none) (z_tuple : mg "tuple" = none) :
  SSs ⟨P, w, K, mg, base, N__law_crowd, defScope s__law_crowd, fun _ => true, 1, sc__law_crowd.nd⟩ (defBody s__law_crowd) b__law_crowd :=
  (ssl_cons (ss_lc (LcParts.mk (own := [("one", 4)]) (by (try dsimp only [SC.inner]); decide +kernel) (by decide) (tg_one 4 (by rfl) (by first | exact Or.inl rfl | exact Or.inr rfl) (by rfl)) (si_range1 (by exact ⟨rfl, rfl, by decide, z_range, by first | rfl | decide +kernel⟩) (sa_cons (se_var 1 (by rfl) (by first | exact Or.inl rfl | exact Or.inr (Or.inl rfl) | exact Or.inr (Or.inr rfl)) (by rfl) (by rfl)) sa_nil (fun _ => by rfl)) (fun _ => by rfl)) (sp_one (st_cmp os_ne (se_var 4 (by rfl) (by first | exact Or.inl rfl | exact Or.inr (Or.inl rfl) | exact Or.inr (Or.inr rfl)) (by rfl) (by rfl)) (se_var 2 (by rfl) (by first | exact Or.inl rfl | exact Or.inr (Or.inl rfl) | exact Or.inr (Or.inr rfl)) (by rfl) (by rfl)) (by rfl))) (se_var 4 (by rfl) (by first | exact Or.inl rfl | exact Or.inr (Or.inl rfl) | exact Or.inr (Or.inr rfl)) (by rfl) (by rfl)) (fun _ _ => by rfl)) (i := 3) (by rfl) (by rfl) (by rfl) (by rfl) (by decide +kernel))
  (ssl_cons (ss_lc (LcParts.mk (own := [("one", 4)]) (by (try dsimp only [SC.inner]); decide +kernel) (by decide) (tg_one 4 (by rfl) (by first | exact Or.inl rfl | exact Or.inr rfl) (by rfl)) (si_seq (se_var 3 (by rfl) (by first | exact Or.inl rfl | exact Or.inr (Or.inl rfl) | exact Or.inr (Or.inr rfl)) (by rfl) (by rfl))) (sp_one (st_cmp os_gt (se_call (OwnM.own o__law_take (by rfl) (by rfl) (Nat.le_of_ble_eq_true (by rfl)) (by exact ⟨rfl, rfl, rfl, rfl, rfl⟩)) (sa_cons (se_var 0 (by rfl) (by first | exact Or.inl rfl | exact Or.inr (Or.inl rfl) | exact Or.inr (Or.inr rfl)) (by rfl) (by rfl)) (sa_cons se_int sa_nil (fun _ => by rfl)) (fun _ => by rfl)) (fun _ => by rfl) (fun _ => by rfl)) se_int (by rfl))) (se_var 4 (by rfl) (by first | exact Or.inl rfl | exact Or.inr (Or.inl rfl) | exact Or.inr (Or.inr rfl)) (by rfl) (by rfl)) (fun _ _ => by rfl)) (i := 5) (by rfl) (by rfl) (by rfl) (by rfl) (by decide +kernel))
  (ssl_cons (ss_if (st_cmp os_eq (se_builtin (by exact ⟨rfl, rfl, by decide, z_len, by first | rfl | decide +kernel⟩) cs_len (sa_cons (se_var 5 (by rfl) (by first | exact Or.inl rfl | exact Or.inr (Or.inl rfl) | exact Or.inr (Or.inr rfl)) (by rfl) (by rfl)) sa_nil (fun _ => by rfl)) (fun _ => by rfl) (fun _ => by rfl)) se_int (by rfl)) (ssl_one (ss_set (tg_one 5 (by rfl) (by first | exact Or.inl rfl | exact Or.inr rfl) (by rfl)) (se_lst (sa_cons (se_ix xs_ix (se_var 3 (by rfl) (by first | exact Or.inl rfl | exact Or.inr (Or.inl rfl) | exact Or.inr (Or.inr rfl)) (by rfl) (by rfl)) (se_call (OwnM.own o__law_take (by rfl) (by rfl) (Nat.le_of_ble_eq_true (by rfl)) (by exact ⟨rfl, rfl, rfl, rfl, rfl⟩)) (sa_cons (se_var 0 (by rfl) (by first | exact Or.inl rfl | exact Or.inr (Or.inl rfl) | exact Or.inr (Or.inr rfl)) (by rfl) (by rfl)) (sa_cons (se_builtin (by exact ⟨rfl, rfl, by decide, z_len, by first | rfl | decide +kernel⟩) cs_len (sa_cons (se_var 3 (by rfl) (by first | exact Or.inl rfl | exact Or.inr (Or.inl rfl) | exact Or.inr (Or.inr rfl)) (by rfl) (by rfl)) sa_nil (fun _ => by rfl)) (fun _ => by rfl) (fun _ => by rfl)) sa_nil (fun _ => by rfl)) (fun _ => by rfl)) (fun _ => by rfl) (fun _ => by rfl)) (fun _ _ => rfl)) sa_nil (fun _ => by rfl))) (fun _ _ => by rfl) (fun _ => by rfl) (fun _ => by rfl))) ssl_nil)
  (ssl_one (ss_ret (se_type (by exact ⟨rfl, rfl, by decide, z_tuple, by first | rfl | decide +kernel⟩) cs_tuple (sa_cons (se_var 5 (by rfl) (by first | exact Or.inl rfl | exact Or.inr (Or.inl rfl) | exact Or.inr (Or.inr rfl)) (by rfl) (by rfl)) sa_nil (fun _ => by rfl)) (fun _ => by rfl) (fun _ => by rfl)))))))
theorem own__law_crowd {P : Program} {w : World} {K : PySem.W.Frag} {mg : Str → Option Value} {base : Heap} {fa : Addr} {fd : FuncData} (F : Fun K "_law_crowd" "_law_crowd" s__law_crowd fa fd) (hm : mg "_law_crowd" = some (.ref fa)) (z_range : mg "range" = none) (o__law_take : OwnM P w K mg base 1 "_law_take" g__law_take) (z_len : mg "len" = none) (z_tuple : mg "tuple" = none) : OwnM P w K mg base 2 "_law_crowd" g__law_crowd :=
  ownM F hm (F.binds (ps := ["box", "count", "number"]) fun _ _ _ _ _ _ us hl => match us, hl with | [_, _, _], _ => rfl) sc__law_crowd (ss__law_crowd z_range o__law_take z_len z_tuple) (fun _ _ _ h => gB_len _ _ _ h) (fun _ _ _ _ h => gB_gives _ _ _ _ h)
abbrev N__law_instruction : List Str := ["number", "count", "process", "box", "kind", "others", "one", "to", "register", "slot"]
theorem sc__law_instruction : FnScope N__law_instruction ["number", "count", "process"] (defScope s__law_instruction) := ⟨rfl, rfl, rfl, by decide +kernel, rfl, by decide +kernel, by decide +kernel⟩
noncomputable def b__law_instruction : Es :=
  (xSeq (xSet (.one 3) (fNew (aCons (fVar 0) aNil)))
  (xSeq (xSet (.one 4) (fCall g__law_take (aCons (fVar 3) (aCons (fC (.int 21)) aNil))))
  (xSeq (xSet (.one 5) (fComp [6] (.one 6) (iRange1 (aCons (fVar 1) aNil)) (tV (fBin vNe (fVar 6) (fVar 2))) (fVar 6)))
  (xSeq (xSet (.one 7) (fIx vIx (fVar 5) (fCall g__law_take (aCons (fVar 3) (aCons (fCall gLen (aCons (fVar 5) aNil)) aNil)))))
  (xSeq (xSet (.one 8) (fCall g__law_take (aCons (fVar 3) (aCons (fC (.int 4)) aNil))))
  (xSeq (xSet (.one 9) (fCall g__law_take (aCons (fVar 3) (aCons (fC (.int 3)) aNil))))
  (xSeq (xIf (tV (fBin vLt (fVar 4) (fC (.int 5)))) (xRet (fTup (aCons (fC (.str (PySem.Str.ofString "send"))) (aCons (fVar 7) (aCons (fVar 8) aNil))))) xNil)
  (xSeq (xIf (tV (fBin vLt (fVar 4) (fC (.int 9)))) (xRet (fTup (aCons (fC (.str (PySem.Str.ofString "get"))) (aCons (fVar 8) (aCons (fCall g__law_crowd (aCons (fVar 3) (aCons (fVar 1) (aCons (fVar 2) aNil)))) aNil))))) xNil)
  (xSeq (xIf (tV (fBin vLt (fVar 4) (fC (.int 11)))) (xRet (fTup (aCons (fC (.str (PySem.Str.ofString "set"))) (aCons (fVar 8) (aCons (fIx vIx (fLst (aCons (fC (.int 0)) (aCons (fC (.int 1)) (aCons (fC (.int 2)) (aCons (fC (.int 7)) (aCons (fC (.int 999)) aNil)))))) (fCall g__law_take (aCons (fVar 3) (aCons (fC (.int 5)) aNil)))) aNil))))) xNil)
  (xSeq (xIf (tV (fBin vLt (fVar 4) (fC (.int 13)))) (xRet (fTup (aCons (fC (.str (PySem.Str.ofString "add"))) (aCons (fVar 8) (aCons (fCall g__law_take (aCons (fVar 3) (aCons (fC (.int 4)) aNil))) aNil))))) xNil)
  (xSeq (xIf (tV (fBin vEq (fVar 4) (fC (.int 13)))) (xRet (fTup (aCons (fC (.str (PySem.Str.ofString "answer"))) (aCons (fVar 8) aNil)))) xNil)
  (xSeq (xIf (tV (fBin vEq (fVar 4) (fC (.int 14)))) (xRet (fTup (aCons (fC (.str (PySem.Str.ofString "test"))) (aCons (fVar 8) (aCons (fCall g__law_take (aCons (fVar 3) (aCons (fC (.int 9)) aNil))) aNil))))) xNil)
  (xSeq (xIf (tV (fBin vEq (fVar 4) (fC (.int 15)))) (xRet (fTup (aCons (fC (.str (PySem.Str.ofString "new"))) (aCons (fVar 9) aNil)))) xNil)
  (xSeq (xIf (tV (fBin vLt (fVar 4) (fC (.int 18)))) (xRet (fTup (aCons (fC (.str (PySem.Str.ofString "give"))) (aCons (fVar 7) (aCons (fVar 9) aNil))))) xNil)
  (xSeq (xIf (tV (fBin vEq (fVar 4) (fC (.int 18)))) (xRet (fTup (aCons (fC (.str (PySem.Str.ofString "hold"))) (aCons (fVar 9) (aCons (fCall g__law_crowd (aCons (fVar 3) (aCons (fVar 1) (aCons (fVar 2) aNil)))) aNil))))) xNil)
  (xSeq (xIf (tV (fBin vEq (fVar 4) (fC (.int 19)))) (xRet (fTup (aCons (fC (.str (PySem.Str.ofString "show"))) (aCons (fVar 8) aNil)))) xNil)
  (xRet (fIx vIx (fLst (aCons (fTup (aCons (fC (.str (PySem.Str.ofString "drop"))) (aCons (fVar 9) aNil))) (aCons (fTup (aCons (fC (.str (PySem.Str.ofString "end"))) aNil)) aNil))) (fCall g__law_take (aCons (fVar 3) (aCons (fC (.int 2)) aNil)))))))))))))))))))))
noncomputable def g__law_instruction : Fn := gB b__law_instruction N__law_instruction 3
theorem gd__law_instruction (a0 a1 a2 : Val) (st : Store) : g__law_instruction [a0, a1, a2] st = fin3 st (b__law_instruction [some a0, some a1, some a2, none, none, none, none, none, none, none] st) := gB_eq rfl
theorem ss__law_instruction {P : Program} {w : World} {K : PySem.W.Frag} {mg : Str → Option Value} {base : Heap} (o__law_take : OwnM P w K mg base 1 "_law_take" g__law_take) (z_range : mg "range" = none) (z_len : mg "len" = none) (o__law_crowd : OwnM P w K mg base 2 "_law_crowd" g__law_crowd) :
  SSs ⟨P, w, K, mg, base, N__law_instruction, defScope s__law_instruction, fun _ => true, 2, sc__law_instruction.nd⟩ (defBody s__law_instruction) b__law_instruction :=
  (ssl_cons (ss_set (tg_one 3 (by rfl) (by first | exact Or.inl rfl | exact Or.inr rfl) (by rfl)) (se_new (sa_cons (se_var 0 (by rfl) (by first | exact Or.inl rfl | exact Or.inr (Or.inl rfl) | exact Or.inr (Or.inr rfl)) (by rfl) (by rfl)) sa_nil (fun _ => by rfl))) (fun _ _ => by rfl) (fun _ => by rfl) (fun _ => by rfl))
  (ssl_cons (ss_set (tg_one 4 (by rfl) (by first | exact Or.inl rfl | exact Or.inr rfl) (by rfl)) (se_call (OwnM.own o__law_take (by rfl) (by rfl) (Nat.le_of_ble_eq_true (by rfl)) (by exact ⟨rfl, rfl, rfl, rfl, rfl⟩)) (sa_cons (se_var 3 (by rfl) (by first | exact Or.inl rfl | exact Or.inr (Or.inl rfl) | exact Or.inr (Or.inr rfl)) (by rfl) (by rfl)) (sa_cons se_int sa_nil (fun _ => by rfl)) (fun _ => by rfl)) (fun _ => by rfl) (fun _ => by rfl)) (fun _ _ => by rfl) (fun _ => by rfl) (fun _ => by rfl))
  (ssl_cons (ss_lc (LcParts.mk (own := [("one", 6)]) (by (try dsimp only [SC.inner]); decide +kernel) (by decide) (tg_one 6 (by rfl) (by first | exact Or.inl rfl | exact Or.inr rfl) (by rfl)) (si_range1 (by exact ⟨rfl, rfl, by decide, z_range, by first | rfl | decide +kernel⟩) (sa_cons (se_var 1 (by rfl) (by first | exact Or.inl rfl | exact Or.inr (Or.inl rfl) | exact Or.inr (Or.inr rfl)) (by rfl) (by rfl)) sa_nil (fun _ => by rfl)) (fun _ => by rfl)) (sp_one (st_cmp os_ne (se_var 6 (by rfl) (by first | exact Or.inl rfl | exact Or.inr (Or.inl rfl) | exact Or.inr (Or.inr rfl)) (by rfl) (by rfl)) (se_var 2 (by rfl) (by first | exact Or.inl rfl | exact Or.inr (Or.inl rfl) | exact Or.inr (Or.inr rfl)) (by rfl) (by rfl)) (by rfl))) (se_var 6 (by rfl) (by first | exact Or.inl rfl | exact Or.inr (Or.inl rfl) | exact Or.inr (Or.inr rfl)) (by rfl) (by rfl)) (fun _ _ => by rfl)) (i := 5) (by rfl) (by rfl) (by rfl) (by rfl) (by decide +kernel))
  (ssl_cons (ss_set (tg_one 7 (by rfl) (by first | exact Or.inl rfl | exact Or.inr rfl) (by rfl)) (se_ix xs_ix (se_var 5 (by rfl) (by first | exact Or.inl rfl | exact Or.inr (Or.inl rfl) | exact Or.inr (Or.inr rfl)) (by rfl) (by rfl)) (se_call (OwnM.own o__law_take (by rfl) (by rfl) (Nat.le_of_ble_eq_true (by rfl)) (by exact ⟨rfl, rfl, rfl, rfl, rfl⟩)) (sa_cons (se_var 3 (by rfl) (by first | exact Or.inl rfl | exact Or.inr (Or.inl rfl) | exact Or.inr (Or.inr rfl)) (by rfl) (by rfl)) (sa_cons (se_builtin (by exact ⟨rfl, rfl, by decide, z_len, by first | rfl | decide +kernel⟩) cs_len (sa_cons (se_var 5 (by rfl) (by first | exact Or.inl rfl | exact Or.inr (Or.inl rfl) | exact Or.inr (Or.inr rfl)) (by rfl) (by rfl)) sa_nil (fun _ => by rfl)) (fun _ => by rfl) (fun _ => by rfl)) sa_nil (fun _ => by rfl)) (fun _ => by rfl)) (fun _ => by rfl) (fun _ => by rfl)) (fun _ _ => rfl)) (fun _ _ => by rfl) (fun _ => by rfl) (fun _ => by rfl))
  (ssl_cons (ss_set (tg_one 8 (by rfl) (by first | exact Or.inl rfl | exact Or.inr rfl) (by rfl)) (se_call (OwnM.own o__law_take (by rfl) (by rfl) (Nat.le_of_ble_eq_true (by rfl)) (by exact ⟨rfl, rfl, rfl, rfl, rfl⟩)) (sa_cons (se_var 3 (by rfl) (by first | exact Or.inl rfl | exact Or.inr (Or.inl rfl) | exact Or.inr (Or.inr rfl)) (by rfl) (by rfl)) (sa_cons se_int sa_nil (fun _ => by rfl)) (fun _ => by rfl)) (fun _ => by rfl) (fun _ => by rfl)) (fun _ _ => by rfl) (fun _ => by rfl) (fun _ => by rfl))
  (ssl_cons (ss_set (tg_one 9 (by rfl) (by first | exact Or.inl rfl | exact Or.inr rfl) (by rfl)) (se_call (OwnM.own o__law_take (by rfl) (by rfl) (Nat.le_of_ble_eq_true (by rfl)) (by exact ⟨rfl, rfl, rfl, rfl, rfl⟩)) (sa_cons (se_var 3 (by rfl) (by first | exact Or.inl rfl | exact Or.inr (Or.inl rfl) | exact Or.inr (Or.inr rfl)) (by rfl) (by rfl)) (sa_cons se_int sa_nil (fun _ => by rfl)) (fun _ => by rfl)) (fun _ => by rfl) (fun _ => by rfl)) (fun _ _ => by rfl) (fun _ => by rfl) (fun _ => by rfl))
  (ssl_cons (ss_if (st_cmp os_lt (se_var 4 (by rfl) (by first | exact Or.inl rfl | exact Or.inr (Or.inl rfl) | exact Or.inr (Or.inr rfl)) (by rfl) (by rfl)) se_int (by rfl)) (ssl_one (ss_ret (se_tup (sa_cons se_str (sa_cons (se_var 7 (by rfl) (by first | exact Or.inl rfl | exact Or.inr (Or.inl rfl) | exact Or.inr (Or.inr rfl)) (by rfl) (by rfl)) (sa_cons (se_var 8 (by rfl) (by first | exact Or.inl rfl | exact Or.inr (Or.inl rfl) | exact Or.inr (Or.inr rfl)) (by rfl) (by rfl)) sa_nil (fun _ => by rfl)) (fun _ => by rfl)) (fun _ => by rfl))))) ssl_nil)
  (ssl_cons (ss_if (st_cmp os_lt (se_var 4 (by rfl) (by first | exact Or.inl rfl | exact Or.inr (Or.inl rfl) | exact Or.inr (Or.inr rfl)) (by rfl) (by rfl)) se_int (by rfl)) (ssl_one (ss_ret (se_tup (sa_cons se_str (sa_cons (se_var 8 (by rfl) (by first | exact Or.inl rfl | exact Or.inr (Or.inl rfl) | exact Or.inr (Or.inr rfl)) (by rfl) (by rfl)) (sa_cons (se_call (OwnM.own o__law_crowd (by rfl) (by rfl) (Nat.le_of_ble_eq_true (by rfl)) (by exact ⟨rfl, rfl, rfl, rfl, rfl⟩)) (sa_cons (se_var 3 (by rfl) (by first | exact Or.inl rfl | exact Or.inr (Or.inl rfl) | exact Or.inr (Or.inr rfl)) (by rfl) (by rfl)) (sa_cons (se_var 1 (by rfl) (by first | exact Or.inl rfl | exact Or.inr (Or.inl rfl) | exact Or.inr (Or.inr rfl)) (by rfl) (by rfl)) (sa_cons (se_var 2 (by rfl) (by first | exact Or.inl rfl | exact Or.inr (Or.inl rfl) | exact Or.inr (Or.inr rfl)) (by rfl) (by rfl)) sa_nil (fun _ => by rfl)) (fun _ => by rfl)) (fun _ => by rfl)) (fun _ => by rfl) (fun _ => by rfl)) sa_nil (fun _ => by rfl)) (fun _ => by rfl)) (fun _ => by rfl))))) ssl_nil)
  (ssl_cons (ss_if (st_cmp os_lt (se_var 4 (by rfl) (by first | exact Or.inl rfl | exact Or.inr (Or.inl rfl) | exact Or.inr (Or.inr rfl)) (by rfl) (by rfl)) se_int (by rfl)) (ssl_one (ss_ret (se_tup (sa_cons se_str (sa_cons (se_var 8 (by rfl) (by first | exact Or.inl rfl | exact Or.inr (Or.inl rfl) | exact Or.inr (Or.inr rfl)) (by rfl) (by rfl)) (sa_cons (se_ix xs_ix (se_lst (sa_cons se_int (sa_cons se_int (sa_cons se_int (sa_cons se_int (sa_cons se_int sa_nil (fun _ => by rfl)) (fun _ => by rfl)) (fun _ => by rfl)) (fun _ => by rfl)) (fun _ => by rfl))) (se_call (OwnM.own o__law_take (by rfl) (by rfl) (Nat.le_of_ble_eq_true (by rfl)) (by exact ⟨rfl, rfl, rfl, rfl, rfl⟩)) (sa_cons (se_var 3 (by rfl) (by first | exact Or.inl rfl | exact Or.inr (Or.inl rfl) | exact Or.inr (Or.inr rfl)) (by rfl) (by rfl)) (sa_cons se_int sa_nil (fun _ => by rfl)) (fun _ => by rfl)) (fun _ => by rfl) (fun _ => by rfl)) (fun _ _ => rfl)) sa_nil (fun _ => by rfl)) (fun _ => by rfl)) (fun _ => by rfl))))) ssl_nil)
  (ssl_cons (ss_if (st_cmp os_lt (se_var 4 (by rfl) (by first | exact Or.inl rfl | exact Or.inr (Or.inl rfl) | exact Or.inr (Or.inr rfl)) (by rfl) (by rfl)) se_int (by rfl)) (ssl_one (ss_ret (se_tup (sa_cons se_str (sa_cons (se_var 8 (by rfl) (by first | exact Or.inl rfl | exact Or.inr (Or.inl rfl) | exact Or.inr (Or.inr rfl)) (by rfl) (by rfl)) (sa_cons (se_call (OwnM.own o__law_take (by rfl) (by rfl) (Nat.le_of_ble_eq_true (by rfl)) (by exact ⟨rfl, rfl, rfl, rfl, rfl⟩)) (sa_cons (se_var 3 (by rfl) (by first | exact Or.inl rfl | exact Or.inr (Or.inl rfl) | exact Or.inr (Or.inr rfl)) (by rfl) (by rfl)) (sa_cons se_int sa_nil (fun _ => by rfl)) (fun _ => by rfl)) (fun _ => by rfl) (fun _ => by rfl)) sa_nil (fun _ => by rfl)) (fun _ => by rfl)) (fun _ => by rfl))))) ssl_nil)
  (ssl_cons (ss_if (st_cmp os_eq (se_var 4 (by rfl) (by first | exact Or.inl rfl | exact Or.inr (Or.inl rfl) | exact Or.inr (Or.inr rfl)) (by rfl) (by rfl)) se_int (by rfl)) (ssl_one (ss_ret (se_tup (sa_cons se_str (sa_cons (se_var 8 (by rfl) (by first | exact Or.inl rfl | exact Or.inr (Or.inl rfl) | exact Or.inr (Or.inr rfl)) (by rfl) (by rfl)) sa_nil (fun _ => by rfl)) (fun _ => by rfl))))) ssl_nil)
  (ssl_cons (ss_if (st_cmp os_eq (se_var 4 (by rfl) (by first | exact Or.inl rfl | exact Or.inr (Or.inl rfl) | exact Or.inr (Or.inr rfl)) (by rfl) (by rfl)) se_int (by rfl)) (ssl_one (ss_ret (se_tup (sa_cons se_str (sa_cons (se_var 8 (by rfl) (by first | exact Or.inl rfl | exact Or.inr (Or.inl rfl) | exact Or.inr (Or.inr rfl)) (by rfl) (by rfl)) (sa_cons (se_call (OwnM.own o__law_take (by rfl) (by rfl) (Nat.le_of_ble_eq_true (by rfl)) (by exact ⟨rfl, rfl, rfl, rfl, rfl⟩)) (sa_cons (se_var 3 (by rfl) (by first | exact Or.inl rfl | exact Or.inr (Or.inl rfl) | exact Or.inr (Or.inr rfl)) (by rfl) (by rfl)) (sa_cons se_int sa_nil (fun _ => by rfl)) (fun _ => by rfl)) (fun _ => by rfl) (fun _ => by rfl)) sa_nil (fun _ => by rfl)) (fun _ => by rfl)) (fun _ => by rfl))))) ssl_nil)
  (ssl_cons (ss_if (st_cmp os_eq (se_var 4 (by rfl) (by first | exact Or.inl rfl | exact Or.inr (Or.inl rfl) | exact Or.inr (Or.inr rfl)) (by rfl) (by rfl)) se_int (by rfl)) (ssl_one (ss_ret (se_tup (sa_cons se_str (sa_cons (se_var 9 (by rfl) (by first | exact Or.inl rfl | exact Or.inr (Or.inl rfl) | exact Or.inr (Or.inr rfl)) (by rfl) (by rfl)) sa_nil (fun _ => by rfl)) (fun _ => by rfl))))) ssl_nil)
  (ssl_cons (ss_if (st_cmp os_lt (se_var 4 (by rfl) (by first | exact Or.inl rfl | exact Or.inr (Or.inl rfl) | exact Or.inr (Or.inr rfl)) (by rfl) (by rfl)) se_int (by rfl)) (ssl_one (ss_ret (se_tup (sa_cons se_str (sa_cons (se_var 7 (by rfl) (by first | exact Or.inl rfl | exact Or.inr (Or.inl rfl) | exact Or.inr (Or.inr rfl)) (by rfl) (by rfl)) (sa_cons (se_var 9 (by rfl) (by first | exact Or.inl rfl | exact Or.inr (Or.inl rfl) | exact Or.inr (Or.inr rfl)) (by rfl) (by rfl)) sa_nil (fun _ => by rfl)) (fun _ => by rfl)) (fun _ => by rfl))))) ssl_nil)
  (ssl_cons (ss_if (st_cmp os_eq (se_var 4 (by rfl) (by first | exact Or.inl rfl | exact Or.inr (Or.inl rfl) | exact Or.inr (Or.inr rfl)) (by rfl) (by rfl)) se_int (by rfl)) (ssl_one (ss_ret (se_tup (sa_cons se_str (sa_cons (se_var 9 (by rfl) (by first | exact Or.inl rfl | exact Or.inr (Or.inl rfl) | exact Or.inr (Or.inr rfl)) (by rfl) (by rfl)) (sa_cons (se_call (OwnM.own o__law_crowd (by rfl) (by rfl) (Nat.le_of_ble_eq_true (by rfl)) (by exact ⟨rfl, rfl, rfl, rfl, rfl⟩)) (sa_cons (se_var 3 (by rfl) (by first | exact Or.inl rfl | exact Or.inr (Or.inl rfl) | exact Or.inr (Or.inr rfl)) (by rfl) (by rfl)) (sa_cons (se_var 1 (by rfl) (by first | exact Or.inl rfl | exact Or.inr (Or.inl rfl) | exact Or.inr (Or.inr rfl)) (by rfl) (by rfl)) (sa_cons (se_var 2 (by rfl) (by first | exact Or.inl rfl | exact Or.inr (Or.inl rfl) | exact Or.inr (Or.inr rfl)) (by rfl) (by rfl)) sa_nil (fun _ => by rfl)) (fun _ => by rfl)) (fun _ => by rfl)) (fun _ => by rfl) (fun _ => by rfl)) sa_nil (fun _ => by rfl)) (fun _ => by rfl)) (fun _ => by rfl))))) ssl_nil)
  (ssl_cons (ss_if (st_cmp os_eq (se_var 4 (by rfl) (by first | exact Or.inl rfl | exact Or.inr (Or.inl rfl) | exact Or.inr (Or.inr rfl)) (by rfl) (by rfl)) se_int (by rfl)) (ssl_one (ss_ret (se_tup (sa_cons se_str (sa_cons (se_var 8 (by rfl) (by first | exact Or.inl rfl | exact Or.inr (Or.inl rfl) | exact Or.inr (Or.inr rfl)) (by rfl) (by rfl)) sa_nil (fun _ => by rfl)) (fun _ => by rfl))))) ssl_nil)
  (ssl_one (ss_ret (se_ix xs_ix (se_lst (sa_cons (se_tup (sa_cons se_str (sa_cons (se_var 9 (by rfl) (by first | exact Or.inl rfl | exact Or.inr (Or.inl rfl) | exact Or.inr (Or.inr rfl)) (by rfl) (by rfl)) sa_nil (fun _ => by rfl)) (fun _ => by rfl))) (sa_cons (se_tup (sa_cons se_str sa_nil (fun _ => by rfl))) sa_nil (fun _ => by rfl)) (fun _ => by rfl))) (se_call (OwnM.own o__law_take (by rfl) (by rfl) (Nat.le_of_ble_eq_true (by rfl)) (by exact ⟨rfl, rfl, rfl, rfl, rfl⟩)) (sa_cons (se_var 3 (by rfl) (by first | exact Or.inl rfl | exact Or.inr (Or.inl rfl) | exact Or.inr (Or.inr rfl)) (by rfl) (by rfl)) (sa_cons se_int sa_nil (fun _ => by rfl)) (fun _ => by rfl)) (fun _ => by rfl) (fun _ => by rfl)) (fun _ _ => rfl))))))))))))))))))))
theorem own__law_instruction {P : Program} {w : World} {K : PySem.W.Frag} {mg : Str → Option Value} {base : Heap} {fa : Addr} {fd : FuncData} (F : Fun K "_law_instruction" "_law_instruction" s__law_instruction fa fd) (hm : mg "_law_instruction" = some (.ref fa)) (o__law_take : OwnM P w K mg base 1 "_law_take" g__law_take) (z_range : mg "range" = none) (z_len : mg "len" = none) (o__law_crowd : OwnM P w K mg base 2 "_law_crowd" g__law_crowd) : OwnM P w K mg base 3 "_law_instruction" g__law_instruction :=
  ownM F hm (F.binds (ps := ["number", "count", "process"]) fun _ _ _ _ _ _ us hl => match us, hl with | [_, _, _], _ => rfl) sc__law_instruction (ss__law_instruction o__law_take z_range z_len o__law_crowd) (fun _ _ _ h => gB_len _ _ _ h) (fun _ _ _ _ h => gB_gives _ _ _ _ h)
abbrev N__law_number : List Str := ["script", "k", "cell", "first", "second", "third"]
theorem sc__law_number : FnScope N__law_number ["script", "k"] (defScope s__law_number) := ⟨rfl, rfl, rfl, by decide +kernel, rfl, by decide +kernel, by decide +kernel⟩
noncomputable def b__law_number : Es :=
  (xSeq (xSet (.one 2) (fC (.int 0)))
  (xSeq (xIf (tV (fBin vGt (fCall gLen (aCons (fVar 0) aNil)) (fC (.int 0)))) (xSet (.one 2) (fIx vIx (fVar 0) (fBin vMod (fCall gInt (aCons (fVar 1) aNil)) (fCall gLen (aCons (fVar 0) aNil))))) xNil)
  (xSeq (xIf (tV (fBin vLt (fVar 2) (fC (.int 0)))) (xSet (.one 2) (fBin vSub (fC (.int 1)) (fBin vMul (fC (.int 2)) (fVar 2)))) xNil)
  (xSeq (xIf (tAnd2 (tV (fBin vGe (fVar 2) (fBin vPow (fC (.int 10)) (fC (.int 9))))) (tV (fBin vLt (fVar 1) (fCall gLen (aCons (fVar 0) aNil))))) (xRet (fVar 2)) xNil)
  (xSeq (xSet (.one 3) (fBin vMod (fCall gInt (aCons (fBin vAdd (fBin vMul (fBin vAdd (fVar 2) (fC (.int 7))) (fC (.int 48271))) (fBin vMul (fBin vAdd (fVar 1) (fC (.int 3))) (fC (.int 69621)))) aNil)) (fC (.int 2147483647))))
  (xSeq (xSet (.one 4) (fBin vMod (fCall gInt (aCons (fBin vAdd (fBin vAdd (fBin vAdd (fBin vMul (fVar 3) (fVar 3)) (fBin vMul (fC (.int 16807)) (fVar 3))) (fBin vMul (fBin vAdd (fVar 2) (fC (.int 1))) (fC (.int 40692)))) (fVar 1)) aNil)) (fC (.int 2147483399))))
  (xSeq (xSet (.one 5) (fBin vMod (fCall gInt (aCons (fBin vAdd (fBin vMul (fVar 4) (fVar 4)) (fVar 3)) aNil)) (fC (.int 2147483629))))
  (xRet (fBin vMod (fCall gInt (aCons (fBin vAdd (fBin vAdd (fBin vMul (fVar 5) (fC (.int 2147483399))) (fBin vMul (fVar 4) (fC (.int 31)))) (fVar 2)) aNil)) (fC (.int 4611686014132420609)))))))))))
noncomputable def g__law_number : Fn := gB b__law_number N__law_number 2
theorem gd__law_number (a0 a1 : Val) (st : Store) : g__law_number [a0, a1] st = fin3 st (b__law_number [some a0, some a1, none, none, none, none] st) := gB_eq rfl
theorem ss__law_number {P : Program} {w : World} {K : PySem.W.Frag} {mg : Str → Option Value} {base : Heap} (z_len : mg "len" = none) (z_int : mg "int" = none) :
  SSs ⟨P, w, K, mg, base, N__law_number, defScope s__law_number, fun _ => true, 0, sc__law_number.nd⟩ (defBody s__law_number) b__law_number :=
  (ssl_cons (ss_set (tg_one 2 (by rfl) (by first | exact Or.inl rfl | exact Or.inr rfl) (by rfl)) se_int (fun _ _ => by rfl) (fun _ => by rfl) (fun _ => by rfl))
  (ssl_cons (ss_if (st_cmp os_gt (se_builtin (by exact ⟨rfl, rfl, by decide, z_len, by first | rfl | decide +kernel⟩) cs_len (sa_cons (se_var 0 (by rfl) (by first | exact Or.inl rfl | exact Or.inr (Or.inl rfl) | exact Or.inr (Or.inr rfl)) (by rfl) (by rfl)) sa_nil (fun _ => by rfl)) (fun _ => by rfl) (fun _ => by rfl)) se_int (by rfl)) (ssl_one (ss_set (tg_one 2 (by rfl) (by first | exact Or.inl rfl | exact Or.inr rfl) (by rfl)) (se_ix xs_ix (se_var 0 (by rfl) (by first | exact Or.inl rfl | exact Or.inr (Or.inl rfl) | exact Or.inr (Or.inr rfl)) (by rfl) (by rfl)) (se_op os_mod (se_type (by exact ⟨rfl, rfl, by decide, z_int, by first | rfl | decide +kernel⟩) cs_int (sa_cons (se_var 1 (by rfl) (by first | exact Or.inl rfl | exact Or.inr (Or.inl rfl) | exact Or.inr (Or.inr rfl)) (by rfl) (by rfl)) sa_nil (fun _ => by rfl)) (fun _ => by rfl) (fun _ => by rfl)) (se_builtin (by exact ⟨rfl, rfl, by decide, z_len, by first | rfl | decide +kernel⟩) cs_len (sa_cons (se_var 0 (by rfl) (by first | exact Or.inl rfl | exact Or.inr (Or.inl rfl) | exact Or.inr (Or.inr rfl)) (by rfl) (by rfl)) sa_nil (fun _ => by rfl)) (fun _ => by rfl) (fun _ => by rfl))) (fun _ _ => rfl)) (fun _ _ => by rfl) (fun _ => by rfl) (fun _ => by rfl))) ssl_nil)
  (ssl_cons (ss_if (st_cmp os_lt (se_var 2 (by rfl) (by first | exact Or.inl rfl | exact Or.inr (Or.inl rfl) | exact Or.inr (Or.inr rfl)) (by rfl) (by rfl)) se_int (by rfl)) (ssl_one (ss_set (tg_one 2 (by rfl) (by first | exact Or.inl rfl | exact Or.inr rfl) (by rfl)) (se_op os_sub se_int (se_op os_mul se_int (se_var 2 (by rfl) (by first | exact Or.inl rfl | exact Or.inr (Or.inl rfl) | exact Or.inr (Or.inr rfl)) (by rfl) (by rfl)))) (fun _ _ => by rfl) (fun _ => by rfl) (fun _ => by rfl))) ssl_nil)
  (ssl_cons (ss_if (SW.st (sw_and (st_cmp os_ge (se_var 2 (by rfl) (by first | exact Or.inl rfl | exact Or.inr (Or.inl rfl) | exact Or.inr (Or.inr rfl)) (by rfl) (by rfl)) (se_op os_pow se_int se_int) (by rfl)) (sw_and1 (st_cmp os_lt (se_var 1 (by rfl) (by first | exact Or.inl rfl | exact Or.inr (Or.inl rfl) | exact Or.inr (Or.inr rfl)) (by rfl) (by rfl)) (se_builtin (by exact ⟨rfl, rfl, by decide, z_len, by first | rfl | decide +kernel⟩) cs_len (sa_cons (se_var 0 (by rfl) (by first | exact Or.inl rfl | exact Or.inr (Or.inl rfl) | exact Or.inr (Or.inr rfl)) (by rfl) (by rfl)) sa_nil (fun _ => by rfl)) (fun _ => by rfl) (fun _ => by rfl)) (by rfl))))) (ssl_one (ss_ret (se_var 2 (by rfl) (by first | exact Or.inl rfl | exact Or.inr (Or.inl rfl) | exact Or.inr (Or.inr rfl)) (by rfl) (by rfl)))) ssl_nil)
  (ssl_cons (ss_set (tg_one 3 (by rfl) (by first | exact Or.inl rfl | exact Or.inr rfl) (by rfl)) (se_op os_mod (se_type (by exact ⟨rfl, rfl, by decide, z_int, by first | rfl | decide +kernel⟩) cs_int (sa_cons (se_op os_add (se_op os_mul (se_op os_add (se_var 2 (by rfl) (by first | exact Or.inl rfl | exact Or.inr (Or.inl rfl) | exact Or.inr (Or.inr rfl)) (by rfl) (by rfl)) se_int) se_int) (se_op os_mul (se_op os_add (se_var 1 (by rfl) (by first | exact Or.inl rfl | exact Or.inr (Or.inl rfl) | exact Or.inr (Or.inr rfl)) (by rfl) (by rfl)) se_int) se_int)) sa_nil (fun _ => by rfl)) (fun _ => by rfl) (fun _ => by rfl)) se_int) (fun _ _ => by rfl) (fun _ => by rfl) (fun _ => by rfl))
  (ssl_cons (ss_set (tg_one 4 (by rfl) (by first | exact Or.inl rfl | exact Or.inr rfl) (by rfl)) (se_op os_mod (se_type (by exact ⟨rfl, rfl, by decide, z_int, by first | rfl | decide +kernel⟩) cs_int (sa_cons (se_op os_add (se_op os_add (se_op os_add (se_op os_mul (se_var 3 (by rfl) (by first | exact Or.inl rfl | exact Or.inr (Or.inl rfl) | exact Or.inr (Or.inr rfl)) (by rfl) (by rfl)) (se_var 3 (by rfl) (by first | exact Or.inl rfl | exact Or.inr (Or.inl rfl) | exact Or.inr (Or.inr rfl)) (by rfl) (by rfl))) (se_op os_mul se_int (se_var 3 (by rfl) (by first | exact Or.inl rfl | exact Or.inr (Or.inl rfl) | exact Or.inr (Or.inr rfl)) (by rfl) (by rfl)))) (se_op os_mul (se_op os_add (se_var 2 (by rfl) (by first | exact Or.inl rfl | exact Or.inr (Or.inl rfl) | exact Or.inr (Or.inr rfl)) (by rfl) (by rfl)) se_int) se_int)) (se_var 1 (by rfl) (by first | exact Or.inl rfl | exact Or.inr (Or.inl rfl) | exact Or.inr (Or.inr rfl)) (by rfl) (by rfl))) sa_nil (fun _ => by rfl)) (fun _ => by rfl) (fun _ => by rfl)) se_int) (fun _ _ => by rfl) (fun _ => by rfl) (fun _ => by rfl))
  (ssl_cons (ss_set (tg_one 5 (by rfl) (by first | exact Or.inl rfl | exact Or.inr rfl) (by rfl)) (se_op os_mod (se_type (by exact ⟨rfl, rfl, by decide, z_int, by first | rfl | decide +kernel⟩) cs_int (sa_cons (se_op os_add (se_op os_mul (se_var 4 (by rfl) (by first | exact Or.inl rfl | exact Or.inr (Or.inl rfl) | exact Or.inr (Or.inr rfl)) (by rfl) (by rfl)) (se_var 4 (by rfl) (by first | exact Or.inl rfl | exact Or.inr (Or.inl rfl) | exact Or.inr (Or.inr rfl)) (by rfl) (by rfl))) (se_var 3 (by rfl) (by first | exact Or.inl rfl | exact Or.inr (Or.inl rfl) | exact Or.inr (Or.inr rfl)) (by rfl) (by rfl))) sa_nil (fun _ => by rfl)) (fun _ => by rfl) (fun _ => by rfl)) se_int) (fun _ _ => by rfl) (fun _ => by rfl) (fun _ => by rfl))
  (ssl_one (ss_ret (se_op os_mod (se_type (by exact ⟨rfl, rfl, by decide, z_int, by first | rfl | decide +kernel⟩) cs_int (sa_cons (se_op os_add (se_op os_add (se_op os_mul (se_var 5 (by rfl) (by first | exact Or.inl rfl | exact Or.inr (Or.inl rfl) | exact Or.inr (Or.inr rfl)) (by rfl) (by rfl)) se_int) (se_op os_mul (se_var 4 (by rfl) (by first | exact Or.inl rfl | exact Or.inr (Or.inl rfl) | exact Or.inr (Or.inr rfl)) (by rfl) (by rfl)) se_int)) (se_var 2 (by rfl) (by first | exact Or.inl rfl | exact Or.inr (Or.inl rfl) | exact Or.inr (Or.inr rfl)) (by rfl) (by rfl))) sa_nil (fun _ => by rfl)) (fun _ => by rfl) (fun _ => by rfl)) se_int))))))))))
theorem own__law_number {P : Program} {w : World} {K : PySem.W.Frag} {mg : Str → Option Value} {base : Heap} {fa : Addr} {fd : FuncData} (F : Fun K "_law_number" "_law_number" s__law_number fa fd) (hm : mg "_law_number" = some (.ref fa)) (z_len : mg "len" = none) (z_int : mg "int" = none) : OwnM P w K mg base 1 "_law_number" g__law_number :=
  ownM F hm (F.binds (ps := ["script", "k"]) fun _ _ _ _ _ _ us hl => match us, hl with | [_, _], _ => rfl) sc__law_number (ss__law_number z_len z_int) (fun _ _ _ h => gB_len _ _ _ h) (fun _ _ _ _ h => gB_gives _ _ _ _ h)
abbrev N__law_code : List Str := ["number", "count", "process", "most", "code", "k"]
theorem sc__law_code : FnScope N__law_code ["number", "count", "process", "most"] (defScope s__law_code) := ⟨rfl, rfl, rfl, by decide +kernel, rfl, by decide +kernel, by decide +kernel⟩
noncomputable def b__law_code : Es :=
  (xSeq (xSet (.one 4) (fNew aNil))
  (xSeq (xFor (.one 5) (iRange1 (aCons (fBin vAdd (fC (.int 2)) (fCall g__law_take (aCons (fNew (aCons (fVar 0) aNil)) (aCons (fBin vSub (fVar 3) (fC (.int 1))) aNil)))) aNil)) (xDrop (fMeth "list" gAppend (fVar 4) (aCons (fCall g__law_instruction (aCons (fCall g__law_number (aCons (fLst (aCons (fVar 0) aNil)) (aCons (fBin vAdd (fC (.int 1)) (fVar 5)) aNil))) (aCons (fVar 1) (aCons (fVar 2) aNil)))) aNil))))
  (xRet (fCall gTuple (aCons (fVar 4) aNil)))))
noncomputable def g__law_code : Fn := gB b__law_code N__law_code 4
theorem gd__law_code (a0 a1 a2 a3 : Val) (st : Store) : g__law_code [a0, a1, a2, a3] st = fin3 st (b__law_code [some a0, some a1, some a2, some a3, none, none] st) := gB_eq rfl
theorem ss__law_code {P : Program} {w : World} {K : PySem.W.Frag} {mg : Str → Option Value} {base : Heap} (o__law_take : OwnM P w K mg base 1 "_law_take" g__law_take) (z_range : mg "range" = none) (o__law_instruction : OwnM P w K mg base 3 "_law_instruction" g__law_instruction) (o__law_number : OwnM P w K mg base 1 "_law_number" g__law_number) (z_tuple : mg "tuple" = none) :
  SSs ⟨P, w, K, mg, base, N__law_code, defScope s__law_code, fun _ => true, 3, sc__law_code.nd⟩ (defBody s__law_code) b__law_code :=
  (ssl_cons (ss_set (tg_one 4 (by rfl) (by first | exact Or.inl rfl | exact Or.inr rfl) (by rfl)) (se_new sa_nil) (fun _ _ => by rfl) (fun _ => by rfl) (fun _ => by rfl))
  (ssl_cons (ss_for (tg_one 5 (by rfl) (by first | exact Or.inl rfl | exact Or.inr rfl) (by rfl)) (si_range1 (by exact ⟨rfl, rfl, by decide, z_range, by first | rfl | decide +kernel⟩) (sa_cons (se_op os_add se_int (se_call (OwnM.own o__law_take (by rfl) (by rfl) (Nat.le_of_ble_eq_true (by rfl)) (by exact ⟨rfl, rfl, rfl, rfl, rfl⟩)) (sa_cons (se_new (sa_cons (se_var 0 (by rfl) (by first | exact Or.inl rfl | exact Or.inr (Or.inl rfl) | exact Or.inr (Or.inr rfl)) (by rfl) (by rfl)) sa_nil (fun _ => by rfl))) (sa_cons (se_op os_sub (se_var 3 (by rfl) (by first | exact Or.inl rfl | exact Or.inr (Or.inl rfl) | exact Or.inr (Or.inr rfl)) (by rfl) (by rfl)) se_int) sa_nil (fun _ => by rfl)) (fun _ => by rfl)) (fun _ => by rfl) (fun _ => by rfl))) sa_nil (fun _ => by rfl)) (fun _ => by rfl)) (ssl_one (ss_expr (se_meth PySem.F.plainAttrs_list PySem.F.slot_list_append PySem.F.type_list_append ms_append (se_var 4 (by rfl) (by first | exact Or.inl rfl | exact Or.inr (Or.inl rfl) | exact Or.inr (Or.inr rfl)) (by rfl) (by rfl)) (sa_cons (se_call (OwnM.own o__law_instruction (by rfl) (by rfl) (Nat.le_of_ble_eq_true (by rfl)) (by exact ⟨rfl, rfl, rfl, rfl, rfl⟩)) (sa_cons (se_call (OwnM.own o__law_number (by rfl) (by rfl) (Nat.le_of_ble_eq_true (by rfl)) (by exact ⟨rfl, rfl, rfl, rfl, rfl⟩)) (sa_cons (se_lst (sa_cons (se_var 0 (by rfl) (by first | exact Or.inl rfl | exact Or.inr (Or.inl rfl) | exact Or.inr (Or.inr rfl)) (by rfl) (by rfl)) sa_nil (fun _ => by rfl))) (sa_cons (se_op os_add se_int (se_var 5 (by rfl) (by first | exact Or.inl rfl | exact Or.inr (Or.inl rfl) | exact Or.inr (Or.inr rfl)) (by rfl) (by rfl))) sa_nil (fun _ => by rfl)) (fun _ => by rfl)) (fun _ => by rfl) (fun _ => by rfl)) (sa_cons (se_var 1 (by rfl) (by first | exact Or.inl rfl | exact Or.inr (Or.inl rfl) | exact Or.inr (Or.inr rfl)) (by rfl) (by rfl)) (sa_cons (se_var 2 (by rfl) (by first | exact Or.inl rfl | exact Or.inr (Or.inl rfl) | exact Or.inr (Or.inr rfl)) (by rfl) (by rfl)) sa_nil (fun _ => by rfl)) (fun _ => by rfl)) (fun _ => by rfl)) (fun _ => by rfl) (fun _ => by rfl)) sa_nil (fun _ => by rfl)) (by exact ⟨fun _ => rfl, fun _ => rfl, rfl, fun _ => rfl, fun _ => rfl⟩)) (fun _ => rfl))) (fun _ _ => rfl))
  (ssl_one (ss_ret (se_type (by exact ⟨rfl, rfl, by decide, z_tuple, by first | rfl | decide +kernel⟩) cs_tuple (sa_cons (se_var 4 (by rfl) (by first | exact Or.inl rfl | exact Or.inr (Or.inl rfl) | exact Or.inr (Or.inr rfl)) (by rfl) (by rfl)) sa_nil (fun _ => by rfl)) (fun _ => by rfl) (fun _ => by rfl))))))
theorem own__law_code {P : Program} {w : World} {K : PySem.W.Frag} {mg : Str → Option Value} {base : Heap} {fa : Addr} {fd : FuncData} (F : Fun K "_law_code" "_law_code" s__law_code fa fd) (hm : mg "_law_code" = some (.ref fa)) (o__law_take : OwnM P w K mg base 1 "_law_take" g__law_take) (z_range : mg "range" = none) (o__law_instruction : OwnM P w K mg base 3 "_law_instruction" g__law_instruction) (o__law_number : OwnM P w K mg base 1 "_law_number" g__law_number) (z_tuple : mg "tuple" = none) : OwnM P w K mg base 4 "_law_code" g__law_code :=
  ownM F hm (F.binds (ps := ["number", "count", "process", "most"]) fun _ _ _ _ _ _ us hl => match us, hl with | [_, _, _, _], _ => rfl) sc__law_code (ss__law_code o__law_take z_range o__law_instruction o__law_number z_tuple) (fun _ _ _ h => gB_len _ _ _ h) (fun _ _ _ _ h => gB_gives _ _ _ _ h)
abbrev N__law_programs : List Str := ["number", "least", "most", "size", "count", "codes", "process"]
theorem sc__law_programs : FnScope N__law_programs ["number", "least", "most", "size"] (defScope s__law_programs) := ⟨rfl, rfl, rfl, by decide +kernel, rfl, by decide +kernel, by decide +kernel⟩
noncomputable def b__law_programs : Es :=
  (xSeq (xSet (.one 4) (fBin vAdd (fVar 1) (fCall g__law_take (aCons (fNew (aCons (fVar 0) aNil)) (aCons (fBin vAdd (fBin vSub (fVar 2) (fVar 1)) (fC (.int 1))) aNil)))))
  (xSeq (xSet (.one 5) (fNew aNil))
  (xSeq (xFor (.one 6) (iRange1 (aCons (fVar 4) aNil)) (xDrop (fMeth "list" gAppend (fVar 5) (aCons (fCall g__law_code (aCons (fCall g__law_number (aCons (fLst (aCons (fVar 0) aNil)) (aCons (fBin vAdd (fC (.int 40)) (fVar 6)) aNil))) (aCons (fVar 4) (aCons (fVar 6) (aCons (fVar 3) aNil))))) aNil))))
  (xRet (fCall gTuple (aCons (fVar 5) aNil))))))
noncomputable def g__law_programs : Fn := gB b__law_programs N__law_programs 4
theorem gd__law_programs (a0 a1 a2 a3 : Val) (st : Store) : g__law_programs [a0, a1, a2, a3] st = fin3 st (b__law_programs [some a0, some a1, some a2, some a3, none, none, none] st) := gB_eq rfl
theorem ss__law_programs {P : Program} {w : World} {K : PySem.W.Frag} {mg : Str → Option Value} {base : Heap} (o__law_take : OwnM P w K mg base 1 "_law_take" g__law_take) (z_range : mg "range" = none) (o__law_code : OwnM P w K mg base 4 "_law_code" g__law_code) (o__law_number : OwnM P w K mg base 1 "_law_number" g__law_number) (z_tuple : mg "tuple" = none) :
  SSs ⟨P, w, K, mg, base, N__law_programs, defScope s__law_programs, fun _ => true, 4, sc__law_programs.nd⟩ (defBody s__law_programs) b__law_programs :=
  (ssl_cons (ss_set (tg_one 4 (by rfl) (by first | exact Or.inl rfl | exact Or.inr rfl) (by rfl)) (se_op os_add (se_var 1 (by rfl) (by first | exact Or.inl rfl | exact Or.inr (Or.inl rfl) | exact Or.inr (Or.inr rfl)) (by rfl) (by rfl)) (se_call (OwnM.own o__law_take (by rfl) (by rfl) (Nat.le_of_ble_eq_true (by rfl)) (by exact ⟨rfl, rfl, rfl, rfl, rfl⟩)) (sa_cons (se_new (sa_cons (se_var 0 (by rfl) (by first | exact Or.inl rfl | exact Or.inr (Or.inl rfl) | exact Or.inr (Or.inr rfl)) (by rfl) (by rfl)) sa_nil (fun _ => by rfl))) (sa_cons (se_op os_add (se_op os_sub (se_var 2 (by rfl) (by first | exact Or.inl rfl | exact Or.inr (Or.inl rfl) | exact Or.inr (Or.inr rfl)) (by rfl) (by rfl)) (se_var 1 (by rfl) (by first | exact Or.inl rfl | exact Or.inr (Or.inl rfl) | exact Or.inr (Or.inr rfl)) (by rfl) (by rfl))) se_int) sa_nil (fun _ => by rfl)) (fun _ => by rfl)) (fun _ => by rfl) (fun _ => by rfl))) (fun _ _ => by rfl) (fun _ => by rfl) (fun _ => by rfl))
  (ssl_cons (ss_set (tg_one 5 (by rfl) (by first | exact Or.inl rfl | exact Or.inr rfl) (by rfl)) (se_new sa_nil) (fun _ _ => by rfl) (fun _ => by rfl) (fun _ => by rfl))
  (ssl_cons (ss_for (tg_one 6 (by rfl) (by first | exact Or.inl rfl | exact Or.inr rfl) (by rfl)) (si_range1 (by exact ⟨rfl, rfl, by decide, z_range, by first | rfl | decide +kernel⟩) (sa_cons (se_var 4 (by rfl) (by first | exact Or.inl rfl | exact Or.inr (Or.inl rfl) | exact Or.inr (Or.inr rfl)) (by rfl) (by rfl)) sa_nil (fun _ => by rfl)) (fun _ => by rfl)) (ssl_one (ss_expr (se_meth PySem.F.plainAttrs_list PySem.F.slot_list_append PySem.F.type_list_append ms_append (se_var 5 (by rfl) (by first | exact Or.inl rfl | exact Or.inr (Or.inl rfl) | exact Or.inr (Or.inr rfl)) (by rfl) (by rfl)) (sa_cons (se_call (OwnM.own o__law_code (by rfl) (by rfl) (Nat.le_of_ble_eq_true (by rfl)) (by exact ⟨rfl, rfl, rfl, rfl, rfl⟩)) (sa_cons (se_call (OwnM.own o__law_number (by rfl) (by rfl) (Nat.le_of_ble_eq_true (by rfl)) (by exact ⟨rfl, rfl, rfl, rfl, rfl⟩)) (sa_cons (se_lst (sa_cons (se_var 0 (by rfl) (by first | exact Or.inl rfl | exact Or.inr (Or.inl rfl) | exact Or.inr (Or.inr rfl)) (by rfl) (by rfl)) sa_nil (fun _ => by rfl))) (sa_cons (se_op os_add se_int (se_var 6 (by rfl) (by first | exact Or.inl rfl | exact Or.inr (Or.inl rfl) | exact Or.inr (Or.inr rfl)) (by rfl) (by rfl))) sa_nil (fun _ => by rfl)) (fun _ => by rfl)) (fun _ => by rfl) (fun _ => by rfl)) (sa_cons (se_var 4 (by rfl) (by first | exact Or.inl rfl | exact Or.inr (Or.inl rfl) | exact Or.inr (Or.inr rfl)) (by rfl) (by rfl)) (sa_cons (se_var 6 (by rfl) (by first | exact Or.inl rfl | exact Or.inr (Or.inl rfl) | exact Or.inr (Or.inr rfl)) (by rfl) (by rfl)) (sa_cons (se_var 3 (by rfl) (by first | exact Or.inl rfl | exact Or.inr (Or.inl rfl) | exact Or.inr (Or.inr rfl)) (by rfl) (by rfl)) sa_nil (fun _ => by rfl)) (fun _ => by rfl)) (fun _ => by rfl)) (fun _ => by rfl)) (fun _ => by rfl) (fun _ => by rfl)) sa_nil (fun _ => by rfl)) (by exact ⟨fun _ => rfl, fun _ => rfl, rfl, fun _ => rfl, fun _ => rfl⟩)) (fun _ => rfl))) (fun _ _ => rfl))
  (ssl_one (ss_ret (se_type (by exact ⟨rfl, rfl, by decide, z_tuple, by first | rfl | decide +kernel⟩) cs_tuple (sa_cons (se_var 5 (by rfl) (by first | exact Or.inl rfl | exact Or.inr (Or.inl rfl) | exact Or.inr (Or.inr rfl)) (by rfl) (by rfl)) sa_nil (fun _ => by rfl)) (fun _ => by rfl) (fun _ => by rfl)))))))
theorem own__law_programs {P : Program} {w : World} {K : PySem.W.Frag} {mg : Str → Option Value} {base : Heap} {fa : Addr} {fd : FuncData} (F : Fun K "_law_programs" "_law_programs" s__law_programs fa fd) (hm : mg "_law_programs" = some (.ref fa)) (o__law_take : OwnM P w K mg base 1 "_law_take" g__law_take) (z_range : mg "range" = none) (o__law_code : OwnM P w K mg base 4 "_law_code" g__law_code) (o__law_number : OwnM P w K mg base 1 "_law_number" g__law_number) (z_tuple : mg "tuple" = none) : OwnM P w K mg base 5 "_law_programs" g__law_programs :=
  ownM F hm (F.binds (ps := ["number", "least", "most", "size"]) fun _ _ _ _ _ _ us hl => match us, hl with | [_, _, _, _], _ => rfl) sc__law_programs (ss__law_programs o__law_take z_range o__law_code o__law_number z_tuple) (fun _ _ _ h => gB_len _ _ _ h) (fun _ _ _ _ h => gB_gives _ _ _ _ h)
abbrev N__law_first : List Str := []
theorem sc__law_first : FnScope N__law_first [] (defScope s__law_first) := ⟨rfl, rfl, rfl, by decide +kernel, rfl, by decide +kernel, by decide +kernel⟩
noncomputable def b__law_first : Es :=
  (xRet (fTup (aCons (fC (.int 0)) (aCons (fTup (aCons (fC (.int 0)) (aCons (fC (.int 0)) (aCons (fC (.int 0)) (aCons (fC (.int 0)) aNil))))) (aCons (fTup (aCons (fC .non) (aCons (fC .non) (aCons (fC .non) aNil)))) (aCons (fC .non) (aCons (fTup aNil) (aCons (fC (.int 0)) (aCons (fC (.int 0)) aNil)))))))))
noncomputable def g__law_first : Fn := gB b__law_first N__law_first 0
theorem gd__law_first (st : Store) : g__law_first [] st = fin3 st (b__law_first [] st) := gB_eq rfl
theorem ss__law_first {P : Program} {w : World} {K : PySem.W.Frag} {mg : Str → Option Value} {base : Heap}  :
  SSs ⟨P, w, K, mg, base, N__law_first, defScope s__law_first, fun _ => true, 0, sc__law_first.nd⟩ (defBody s__law_first) b__law_first :=
  (ssl_one (ss_ret (se_tup (sa_cons se_int (sa_cons (se_tup (sa_cons se_int (sa_cons se_int (sa_cons se_int (sa_cons se_int sa_nil (fun _ => by rfl)) (fun _ => by rfl)) (fun _ => by rfl)) (fun _ => by rfl))) (sa_cons (se_tup (sa_cons se_non (sa_cons se_non (sa_cons se_non sa_nil (fun _ => by rfl)) (fun _ => by rfl)) (fun _ => by rfl))) (sa_cons se_non (sa_cons (se_tup sa_nil) (sa_cons se_int (sa_cons se_int sa_nil (fun _ => by rfl)) (fun _ => by rfl)) (fun _ => by rfl)) (fun _ => by rfl)) (fun _ => by rfl)) (fun _ => by rfl)) (fun _ => by rfl)))))
theorem own__law_first {P : Program} {w : World} {K : PySem.W.Frag} {mg : Str → Option Value} {base : Heap} {fa : Addr} {fd : FuncData} (F : Fun K "_law_first" "_law_first" s__law_first fa fd) (hm : mg "_law_first" = some (.ref fa))  : OwnM P w K mg base 1 "_law_first" g__law_first :=
  ownM F hm (F.binds (ps := []) fun _ _ _ _ _ _ us hl => match us, hl with | [], _ => rfl) sc__law_first (ss__law_first ) (fun _ _ _ h => gB_len _ _ _ h) (fun _ _ _ _ h => gB_gives _ _ _ _ h)
abbrev N__law_payload : List Str := ["box", "count"]
theorem sc__law_payload : FnScope N__law_payload ["box", "count"] (defScope s__law_payload) := ⟨rfl, rfl, rfl, by decide +kernel, rfl, by decide +kernel, by decide +kernel⟩
noncomputable def b__law_payload : Es :=
  (xSeq (xIf (tV (fBin vGt (fCall g__law_take (aCons (fVar 0) (aCons (fC (.int 3)) aNil))) (fC (.int 0)))) (xRet (fTup (aCons (fC (.str (PySem.Str.ofString "number"))) (aCons (fIx vIx (fLst (aCons (fC (.int 0)) (aCons (fC (.int 1)) (aCons (fC (.int 7)) (aCons (fC (.int 999)) aNil))))) (fCall g__law_take (aCons (fVar 0) (aCons (fC (.int 4)) aNil)))) aNil)))) xNil)
  (xRet (fTup (aCons (fC (.str (PySem.Str.ofString "object"))) (aCons (fCall g__law_take (aCons (fVar 0) (aCons (fVar 1) aNil))) (aCons (fCall g__law_take (aCons (fVar 0) (aCons (fC (.int 3)) aNil))) aNil))))))
noncomputable def g__law_payload : Fn := gB b__law_payload N__law_payload 2
theorem gd__law_payload (a0 a1 : Val) (st : Store) : g__law_payload [a0, a1] st = fin3 st (b__law_payload [some a0, some a1] st) := gB_eq rfl
theorem ss__law_payload {P : Program} {w : World} {K : PySem.W.Frag} {mg : Str → Option Value} {base : Heap} (o__law_take : OwnM P w K mg base 1 "_law_take" g__law_take) :
  SSs ⟨P, w, K, mg, base, N__law_payload, defScope s__law_payload, fun _ => true, 1, sc__law_payload.nd⟩ (defBody s__law_payload) b__law_payload :=
  (ssl_cons (ss_if (st_cmp os_gt (se_call (OwnM.own o__law_take (by rfl) (by rfl) (Nat.le_of_ble_eq_true (by rfl)) (by exact ⟨rfl, rfl, rfl, rfl, rfl⟩)) (sa_cons (se_var 0 (by rfl) (by first | exact Or.inl rfl | exact Or.inr (Or.inl rfl) | exact Or.inr (Or.inr rfl)) (by rfl) (by rfl)) (sa_cons se_int sa_nil (fun _ => by rfl)) (fun _ => by rfl)) (fun _ => by rfl) (fun _ => by rfl)) se_int (by rfl)) (ssl_one (ss_ret (se_tup (sa_cons se_str (sa_cons (se_ix xs_ix (se_lst (sa_cons se_int (sa_cons se_int (sa_cons se_int (sa_cons se_int sa_nil (fun _ => by rfl)) (fun _ => by rfl)) (fun _ => by rfl)) (fun _ => by rfl))) (se_call (OwnM.own o__law_take (by rfl) (by rfl) (Nat.le_of_ble_eq_true (by rfl)) (by exact ⟨rfl, rfl, rfl, rfl, rfl⟩)) (sa_cons (se_var 0 (by rfl) (by first | exact Or.inl rfl | exact Or.inr (Or.inl rfl) | exact Or.inr (Or.inr rfl)) (by rfl) (by rfl)) (sa_cons se_int sa_nil (fun _ => by rfl)) (fun _ => by rfl)) (fun _ => by rfl) (fun _ => by rfl)) (fun _ _ => rfl)) sa_nil (fun _ => by rfl)) (fun _ => by rfl))))) ssl_nil)
  (ssl_one (ss_ret (se_tup (sa_cons se_str (sa_cons (se_call (OwnM.own o__law_take (by rfl) (by rfl) (Nat.le_of_ble_eq_true (by rfl)) (by exact ⟨rfl, rfl, rfl, rfl, rfl⟩)) (sa_cons (se_var 0 (by rfl) (by first | exact Or.inl rfl | exact Or.inr (Or.inl rfl) | exact Or.inr (Or.inr rfl)) (by rfl) (by rfl)) (sa_cons (se_var 1 (by rfl) (by first | exact Or.inl rfl | exact Or.inr (Or.inl rfl) | exact Or.inr (Or.inr rfl)) (by rfl) (by rfl)) sa_nil (fun _ => by rfl)) (fun _ => by rfl)) (fun _ => by rfl) (fun _ => by rfl)) (sa_cons (se_call (OwnM.own o__law_take (by rfl) (by rfl) (Nat.le_of_ble_eq_true (by rfl)) (by exact ⟨rfl, rfl, rfl, rfl, rfl⟩)) (sa_cons (se_var 0 (by rfl) (by first | exact Or.inl rfl | exact Or.inr (Or.inl rfl) | exact Or.inr (Or.inr rfl)) (by rfl) (by rfl)) (sa_cons se_int sa_nil (fun _ => by rfl)) (fun _ => by rfl)) (fun _ => by rfl) (fun _ => by rfl)) sa_nil (fun _ => by rfl)) (fun _ => by rfl)) (fun _ => by rfl))))))
theorem own__law_payload {P : Program} {w : World} {K : PySem.W.Frag} {mg : Str → Option Value} {base : Heap} {fa : Addr} {fd : FuncData} (F : Fun K "_law_payload" "_law_payload" s__law_payload fa fd) (hm : mg "_law_payload" = some (.ref fa)) (o__law_take : OwnM P w K mg base 1 "_law_take" g__law_take) : OwnM P w K mg base 2 "_law_payload" g__law_payload :=
  ownM F hm (F.binds (ps := ["box", "count"]) fun _ _ _ _ _ _ us hl => match us, hl with | [_, _], _ => rfl) sc__law_payload (ss__law_payload o__law_take) (fun _ _ _ h => gB_len _ _ _ h) (fun _ _ _ _ h => gB_gives _ _ _ _ h)
abbrev N__law_state : List Str := ["number", "code", "count", "process", "box", "others", "one", "registers", "k", "slots", "inbox", "inner", "sender", "acts"]
theorem sc__law_state : FnScope N__law_state ["number", "code", "count", "process"] (defScope s__law_state) := ⟨rfl, rfl, rfl, by decide +kernel, rfl, by decide +kernel, by decide +kernel⟩
noncomputable def b__law_state : Es :=
  (xSeq (xSet (.one 4) (fNew (aCons (fVar 0) aNil)))
  (xSeq (xSet (.one 5) (fComp [6] (.one 6) (iRange1 (aCons (fVar 2) aNil)) (tV (fBin vNe (fVar 6) (fVar 3))) (fVar 6)))
  (xSeq (xSet (.one 7) (fCall gTuple (aCons (fComp [8] (.one 8) (iRange1 (aCons (fC (.int 4)) aNil)) cYes (fIx vIx (fLst (aCons (fC (.int 0)) (aCons (fC (.int 1)) (aCons (fC (.int 5)) (aCons (fC (.int 999)) aNil))))) (fCall g__law_take (aCons (fVar 4) (aCons (fC (.int 4)) aNil))))) aNil)))
  (xSeq (xSet (.one 9) (fCall gTuple (aCons (fComp [8] (.one 8) (iRange1 (aCons (fC (.int 3)) aNil)) cYes (fIx vIx (fLst (aCons (fC .non) (aCons (fTup (aCons (fCall g__law_take (aCons (fVar 4) (aCons (fVar 2) aNil))) (aCons (fCall g__law_take (aCons (fVar 4) (aCons (fC (.int 3)) aNil))) aNil))) aNil))) (fCall g__law_take (aCons (fVar 4) (aCons (fC (.int 2)) aNil))))) aNil)))
  (xSeq (xSet (.one 10) (fNew aNil))
  (xSeq (xFor (.one 8) (iRange1 (aCons (fCall g__law_take (aCons (fVar 4) (aCons (fC (.int 6)) aNil))) aNil)) (xSeq (xSet (.one 11) (fNew (aCons (fCall g__law_number (aCons (fLst (aCons (fVar 0) aNil)) (aCons (fBin vAdd (fC (.int 3)) (fVar 8)) aNil))) aNil)))
  (xDrop (fMeth "list" gAppend (fVar 10) (aCons (fTup (aCons (fIx vIx (fVar 5) (fCall g__law_take (aCons (fVar 11) (aCons (fCall gLen (aCons (fVar 5) aNil)) aNil)))) (aCons (fCall g__law_payload (aCons (fVar 11) (aCons (fVar 2) aNil))) aNil))) aNil)))))
  (xSeq (xSet (.one 4) (fNew (aCons (fCall g__law_number (aCons (fLst (aCons (fVar 0) aNil)) (aCons (fC (.int 1)) aNil))) aNil)))
  (xSeq (xSet (.one 12) (fIx vIx (fLst (aCons (fC .non) (aCons (fIx vIx (fVar 5) (fCall g__law_take (aCons (fVar 4) (aCons (fCall gLen (aCons (fVar 5) aNil)) aNil)))) aNil))) (fCall g__law_take (aCons (fVar 4) (aCons (fC (.int 2)) aNil)))))
  (xSeq (xSet (.one 13) (fIx vIx (fLst (aCons (fC (.int 0)) (aCons (fC (.int 3)) (aCons (fC (.int 38)) (aCons (fC (.int 39)) (aCons (fC (.int 40)) aNil)))))) (fCall g__law_take (aCons (fVar 4) (aCons (fC (.int 5)) aNil)))))
  (xRet (fTup (aCons (fCall g__law_take (aCons (fVar 4) (aCons (fBin vAdd (fCall gLen (aCons (fVar 1) aNil)) (fC (.int 2))) aNil))) (aCons (fVar 7) (aCons (fVar 9) (aCons (fVar 12) (aCons (fCall gTuple (aCons (fVar 10) aNil)) (aCons (fVar 13) (aCons (fCall g__law_take (aCons (fVar 4) (aCons (fC (.int 4)) aNil))) aNil))))))))))))))))))
noncomputable def g__law_state : Fn := gB b__law_state N__law_state 4
theorem gd__law_state (a0 a1 a2 a3 : Val) (st : Store) : g__law_state [a0, a1, a2, a3] st = fin3 st (b__law_state [some a0, some a1, some a2, some a3, none, none, none, none, none, none, none, none, none, none] st) := gB_eq rfl
theorem ss__law_state {P : Program} {w : World} {K : PySem.W.Frag} {mg : Str → Option Value} {base : Heap} (z_range : mg "range" = none) (o__law_take : OwnM P w K mg base 1 "_law_take" g__law_take) (z_tuple : mg "tuple" = none) (o__law_number : OwnM P w K mg base 1 "_law_number" g__law_number) (z_len : mg "len" = none) (o__law_payload : OwnM P w K mg base 2 "_law_payload" g__law_payload) :
  SSs ⟨P, w, K, mg, base, N__law_state, defScope s__law_state, fun _ => true, 2, sc__law_state.nd⟩ (defBody s__law_state) b__law_state :=
  (ssl_cons (ss_set (tg_one 4 (by rfl) (by first | exact Or.inl rfl | exact Or.inr rfl) (by rfl)) (se_new (sa_cons (se_var 0 (by rfl) (by first | exact Or.inl rfl | exact Or.inr (Or.inl rfl) | exact Or.inr (Or.inr rfl)) (by rfl) (by rfl)) sa_nil (fun _ => by rfl))) (fun _ _ => by rfl) (fun _ => by rfl) (fun _ => by rfl))
  (ssl_cons (ss_lc (LcParts.mk (own := [("one", 6)]) (by (try dsimp only [SC.inner]); decide +kernel) (by decide) (tg_one 6 (by rfl) (by first | exact Or.inl rfl | exact Or.inr rfl) (by rfl)) (si_range1 (by exact ⟨rfl, rfl, by decide, z_range, by first | rfl | decide +kernel⟩) (sa_cons (se_var 2 (by rfl) (by first | exact Or.inl rfl | exact Or.inr (Or.inl rfl) | exact Or.inr (Or.inr rfl)) (by rfl) (by rfl)) sa_nil (fun _ => by rfl)) (fun _ => by rfl)) (sp_one (st_cmp os_ne (se_var 6 (by rfl) (by first | exact Or.inl rfl | exact Or.inr (Or.inl rfl) | exact Or.inr (Or.inr rfl)) (by rfl) (by rfl)) (se_var 3 (by rfl) (by first | exact Or.inl rfl | exact Or.inr (Or.inl rfl) | exact Or.inr (Or.inr rfl)) (by rfl) (by rfl)) (by rfl))) (se_var 6 (by rfl) (by first | exact Or.inl rfl | exact Or.inr (Or.inl rfl) | exact Or.inr (Or.inr rfl)) (by rfl) (by rfl)) (fun _ _ => by rfl)) (i := 5) (by rfl) (by rfl) (by rfl) (by rfl) (by decide +kernel))
  (ssl_cons (ss_set (tg_one 7 (by rfl) (by first | exact Or.inl rfl | exact Or.inr rfl) (by rfl)) (se_type (by exact ⟨rfl, rfl, by decide, z_tuple, by first | rfl | decide +kernel⟩) cs_tuple (sa_cons (se_lc (LcParts.mk (own := [("k", 8)]) (by (try dsimp only [SC.inner]); decide +kernel) (by decide) (tg_one 8 (by rfl) (by first | exact Or.inl rfl | exact Or.inr rfl) (by rfl)) (si_range1 (by exact ⟨rfl, rfl, by decide, z_range, by first | rfl | decide +kernel⟩) (sa_cons se_int sa_nil (fun _ => by rfl)) (fun _ => by rfl)) sp_nil (se_ix xs_ix (se_lst (sa_cons se_int (sa_cons se_int (sa_cons se_int (sa_cons se_int sa_nil (fun _ => by rfl)) (fun _ => by rfl)) (fun _ => by rfl)) (fun _ => by rfl))) (se_call (OwnM.own o__law_take (by rfl) (by rfl) (Nat.le_of_ble_eq_true (by rfl)) (by exact ⟨rfl, rfl, rfl, rfl, rfl⟩)) (sa_cons (se_var 4 (by rfl) (by first | exact Or.inl rfl | exact Or.inr (Or.inl rfl) | exact Or.inr (Or.inr rfl)) (by rfl) (by rfl)) (sa_cons se_int sa_nil (fun _ => by rfl)) (fun _ => by rfl)) (fun _ => by rfl) (fun _ => by rfl)) (fun _ _ => rfl)) (fun _ _ => by rfl))) sa_nil (fun _ => by rfl)) (fun _ => by rfl) (fun _ => by rfl)) (fun _ _ => by rfl) (fun _ => by rfl) (fun _ => by rfl))
  (ssl_cons (ss_set (tg_one 9 (by rfl) (by first | exact Or.inl rfl | exact Or.inr rfl) (by rfl)) (se_type (by exact ⟨rfl, rfl, by decide, z_tuple, by first | rfl | decide +kernel⟩) cs_tuple (sa_cons (se_lc (LcParts.mk (own := [("k", 8)]) (by (try dsimp only [SC.inner]); decide +kernel) (by decide) (tg_one 8 (by rfl) (by first | exact Or.inl rfl | exact Or.inr rfl) (by rfl)) (si_range1 (by exact ⟨rfl, rfl, by decide, z_range, by first | rfl | decide +kernel⟩) (sa_cons se_int sa_nil (fun _ => by rfl)) (fun _ => by rfl)) sp_nil (se_ix xs_ix (se_lst (sa_cons se_non (sa_cons (se_tup (sa_cons (se_call (OwnM.own o__law_take (by rfl) (by rfl) (Nat.le_of_ble_eq_true (by rfl)) (by exact ⟨rfl, rfl, rfl, rfl, rfl⟩)) (sa_cons (se_var 4 (by rfl) (by first | exact Or.inl rfl | exact Or.inr (Or.inl rfl) | exact Or.inr (Or.inr rfl)) (by rfl) (by rfl)) (sa_cons (se_var 2 (by rfl) (by first | exact Or.inl rfl | exact Or.inr (Or.inl rfl) | exact Or.inr (Or.inr rfl)) (by rfl) (by rfl)) sa_nil (fun _ => by rfl)) (fun _ => by rfl)) (fun _ => by rfl) (fun _ => by rfl)) (sa_cons (se_call (OwnM.own o__law_take (by rfl) (by rfl) (Nat.le_of_ble_eq_true (by rfl)) (by exact ⟨rfl, rfl, rfl, rfl, rfl⟩)) (sa_cons (se_var 4 (by rfl) (by first | exact Or.inl rfl | exact Or.inr (Or.inl rfl) | exact Or.inr (Or.inr rfl)) (by rfl) (by rfl)) (sa_cons se_int sa_nil (fun _ => by rfl)) (fun _ => by rfl)) (fun _ => by rfl) (fun _ => by rfl)) sa_nil (fun _ => by rfl)) (fun _ => by rfl))) sa_nil (fun _ => by rfl)) (fun _ => by rfl))) (se_call (OwnM.own o__law_take (by rfl) (by rfl) (Nat.le_of_ble_eq_true (by rfl)) (by exact ⟨rfl, rfl, rfl, rfl, rfl⟩)) (sa_cons (se_var 4 (by rfl) (by first | exact Or.inl rfl | exact Or.inr (Or.inl rfl) | exact Or.inr (Or.inr rfl)) (by rfl) (by rfl)) (sa_cons se_int sa_nil (fun _ => by rfl)) (fun _ => by rfl)) (fun _ => by rfl) (fun _ => by rfl)) (fun _ _ => rfl)) (fun _ _ => by rfl))) sa_nil (fun _ => by rfl)) (fun _ => by rfl) (fun _ => by rfl)) (fun _ _ => by rfl) (fun _ => by rfl) (fun _ => by rfl))
  (ssl_cons (ss_set (tg_one 10 (by rfl) (by first | exact Or.inl rfl | exact Or.inr rfl) (by rfl)) (se_new sa_nil) (fun _ _ => by rfl) (fun _ => by rfl) (fun _ => by rfl))
  (ssl_cons (ss_for (tg_one 8 (by rfl) (by first | exact Or.inl rfl | exact Or.inr rfl) (by rfl)) (si_range1 (by exact ⟨rfl, rfl, by decide, z_range, by first | rfl | decide +kernel⟩) (sa_cons (se_call (OwnM.own o__law_take (by rfl) (by rfl) (Nat.le_of_ble_eq_true (by rfl)) (by exact ⟨rfl, rfl, rfl, rfl, rfl⟩)) (sa_cons (se_var 4 (by rfl) (by first | exact Or.inl rfl | exact Or.inr (Or.inl rfl) | exact Or.inr (Or.inr rfl)) (by rfl) (by rfl)) (sa_cons se_int sa_nil (fun _ => by rfl)) (fun _ => by rfl)) (fun _ => by rfl) (fun _ => by rfl)) sa_nil (fun _ => by rfl)) (fun _ => by rfl)) (ssl_cons (ss_set (tg_one 11 (by rfl) (by first | exact Or.inl rfl | exact Or.inr rfl) (by rfl)) (se_new (sa_cons (se_call (OwnM.own o__law_number (by rfl) (by rfl) (Nat.le_of_ble_eq_true (by rfl)) (by exact ⟨rfl, rfl, rfl, rfl, rfl⟩)) (sa_cons (se_lst (sa_cons (se_var 0 (by rfl) (by first | exact Or.inl rfl | exact Or.inr (Or.inl rfl) | exact Or.inr (Or.inr rfl)) (by rfl) (by rfl)) sa_nil (fun _ => by rfl))) (sa_cons (se_op os_add se_int (se_var 8 (by rfl) (by first | exact Or.inl rfl | exact Or.inr (Or.inl rfl) | exact Or.inr (Or.inr rfl)) (by rfl) (by rfl))) sa_nil (fun _ => by rfl)) (fun _ => by rfl)) (fun _ => by rfl) (fun _ => by rfl)) sa_nil (fun _ => by rfl))) (fun _ _ => by rfl) (fun _ => by rfl) (fun _ => by rfl))
  (ssl_one (ss_expr (se_meth PySem.F.plainAttrs_list PySem.F.slot_list_append PySem.F.type_list_append ms_append (se_var 10 (by rfl) (by first | exact Or.inl rfl | exact Or.inr (Or.inl rfl) | exact Or.inr (Or.inr rfl)) (by rfl) (by rfl)) (sa_cons (se_tup (sa_cons (se_ix xs_ix (se_var 5 (by rfl) (by first | exact Or.inl rfl | exact Or.inr (Or.inl rfl) | exact Or.inr (Or.inr rfl)) (by rfl) (by rfl)) (se_call (OwnM.own o__law_take (by rfl) (by rfl) (Nat.le_of_ble_eq_true (by rfl)) (by exact ⟨rfl, rfl, rfl, rfl, rfl⟩)) (sa_cons (se_var 11 (by rfl) (by first | exact Or.inl rfl | exact Or.inr (Or.inl rfl) | exact Or.inr (Or.inr rfl)) (by rfl) (by rfl)) (sa_cons (se_builtin (by exact ⟨rfl, rfl, by decide, z_len, by first | rfl | decide +kernel⟩) cs_len (sa_cons (se_var 5 (by rfl) (by first | exact Or.inl rfl | exact Or.inr (Or.inl rfl) | exact Or.inr (Or.inr rfl)) (by rfl) (by rfl)) sa_nil (fun _ => by rfl)) (fun _ => by rfl) (fun _ => by rfl)) sa_nil (fun _ => by rfl)) (fun _ => by rfl)) (fun _ => by rfl) (fun _ => by rfl)) (fun _ _ => rfl)) (sa_cons (se_call (OwnM.own o__law_payload (by rfl) (by rfl) (Nat.le_of_ble_eq_true (by rfl)) (by exact ⟨rfl, rfl, rfl, rfl, rfl⟩)) (sa_cons (se_var 11 (by rfl) (by first | exact Or.inl rfl | exact Or.inr (Or.inl rfl) | exact Or.inr (Or.inr rfl)) (by rfl) (by rfl)) (sa_cons (se_var 2 (by rfl) (by first | exact Or.inl rfl | exact Or.inr (Or.inl rfl) | exact Or.inr (Or.inr rfl)) (by rfl) (by rfl)) sa_nil (fun _ => by rfl)) (fun _ => by rfl)) (fun _ => by rfl) (fun _ => by rfl)) sa_nil (fun _ => by rfl)) (fun _ => by rfl))) sa_nil (fun _ => by rfl)) (by exact ⟨fun _ => rfl, fun _ => rfl, rfl, fun _ => rfl, fun _ => rfl⟩)) (fun _ => rfl)))) (fun _ _ => rfl))
  (ssl_cons (ss_set (tg_one 4 (by rfl) (by first | exact Or.inl rfl | exact Or.inr rfl) (by rfl)) (se_new (sa_cons (se_call (OwnM.own o__law_number (by rfl) (by rfl) (Nat.le_of_ble_eq_true (by rfl)) (by exact ⟨rfl, rfl, rfl, rfl, rfl⟩)) (sa_cons (se_lst (sa_cons (se_var 0 (by rfl) (by first | exact Or.inl rfl | exact Or.inr (Or.inl rfl) | exact Or.inr (Or.inr rfl)) (by rfl) (by rfl)) sa_nil (fun _ => by rfl))) (sa_cons se_int sa_nil (fun _ => by rfl)) (fun _ => by rfl)) (fun _ => by rfl) (fun _ => by rfl)) sa_nil (fun _ => by rfl))) (fun _ _ => by rfl) (fun _ => by rfl) (fun _ => by rfl))
  (ssl_cons (ss_set (tg_one 12 (by rfl) (by first | exact Or.inl rfl | exact Or.inr rfl) (by rfl)) (se_ix xs_ix (se_lst (sa_cons se_non (sa_cons (se_ix xs_ix (se_var 5 (by rfl) (by first | exact Or.inl rfl | exact Or.inr (Or.inl rfl) | exact Or.inr (Or.inr rfl)) (by rfl) (by rfl)) (se_call (OwnM.own o__law_take (by rfl) (by rfl) (Nat.le_of_ble_eq_true (by rfl)) (by exact ⟨rfl, rfl, rfl, rfl, rfl⟩)) (sa_cons (se_var 4 (by rfl) (by first | exact Or.inl rfl | exact Or.inr (Or.inl rfl) | exact Or.inr (Or.inr rfl)) (by rfl) (by rfl)) (sa_cons (se_builtin (by exact ⟨rfl, rfl, by decide, z_len, by first | rfl | decide +kernel⟩) cs_len (sa_cons (se_var 5 (by rfl) (by first | exact Or.inl rfl | exact Or.inr (Or.inl rfl) | exact Or.inr (Or.inr rfl)) (by rfl) (by rfl)) sa_nil (fun _ => by rfl)) (fun _ => by rfl) (fun _ => by rfl)) sa_nil (fun _ => by rfl)) (fun _ => by rfl)) (fun _ => by rfl) (fun _ => by rfl)) (fun _ _ => rfl)) sa_nil (fun _ => by rfl)) (fun _ => by rfl))) (se_call (OwnM.own o__law_take (by rfl) (by rfl) (Nat.le_of_ble_eq_true (by rfl)) (by exact ⟨rfl, rfl, rfl, rfl, rfl⟩)) (sa_cons (se_var 4 (by rfl) (by first | exact Or.inl rfl | exact Or.inr (Or.inl rfl) | exact Or.inr (Or.inr rfl)) (by rfl) (by rfl)) (sa_cons se_int sa_nil (fun _ => by rfl)) (fun _ => by rfl)) (fun _ => by rfl) (fun _ => by rfl)) (fun _ _ => rfl)) (fun _ _ => by rfl) (fun _ => by rfl) (fun _ => by rfl))
  (ssl_cons (ss_set (tg_one 13 (by rfl) (by first | exact Or.inl rfl | exact Or.inr rfl) (by rfl)) (se_ix xs_ix (se_lst (sa_cons se_int (sa_cons se_int (sa_cons se_int (sa_cons se_int (sa_cons se_int sa_nil (fun _ => by rfl)) (fun _ => by rfl)) (fun _ => by rfl)) (fun _ => by rfl)) (fun _ => by rfl))) (se_call (OwnM.own o__law_take (by rfl) (by rfl) (Nat.le_of_ble_eq_true (by rfl)) (by exact ⟨rfl, rfl, rfl, rfl, rfl⟩)) (sa_cons (se_var 4 (by rfl) (by first | exact Or.inl rfl | exact Or.inr (Or.inl rfl) | exact Or.inr (Or.inr rfl)) (by rfl) (by rfl)) (sa_cons se_int sa_nil (fun _ => by rfl)) (fun _ => by rfl)) (fun _ => by rfl) (fun _ => by rfl)) (fun _ _ => rfl)) (fun _ _ => by rfl) (fun _ => by rfl) (fun _ => by rfl))
  (ssl_one (ss_ret (se_tup (sa_cons (se_call (OwnM.own o__law_take (by rfl) (by rfl) (Nat.le_of_ble_eq_true (by rfl)) (by exact ⟨rfl, rfl, rfl, rfl, rfl⟩)) (sa_cons (se_var 4 (by rfl) (by first | exact Or.inl rfl | exact Or.inr (Or.inl rfl) | exact Or.inr (Or.inr rfl)) (by rfl) (by rfl)) (sa_cons (se_op os_add (se_builtin (by exact ⟨rfl, rfl, by decide, z_len, by first | rfl | decide +kernel⟩) cs_len (sa_cons (se_var 1 (by rfl) (by first | exact Or.inl rfl | exact Or.inr (Or.inl rfl) | exact Or.inr (Or.inr rfl)) (by rfl) (by rfl)) sa_nil (fun _ => by rfl)) (fun _ => by rfl) (fun _ => by rfl)) se_int) sa_nil (fun _ => by rfl)) (fun _ => by rfl)) (fun _ => by rfl) (fun _ => by rfl)) (sa_cons (se_var 7 (by rfl) (by first | exact Or.inl rfl | exact Or.inr (Or.inl rfl) | exact Or.inr (Or.inr rfl)) (by rfl) (by rfl)) (sa_cons (se_var 9 (by rfl) (by first | exact Or.inl rfl | exact Or.inr (Or.inl rfl) | exact Or.inr (Or.inr rfl)) (by rfl) (by rfl)) (sa_cons (se_var 12 (by rfl) (by first | exact Or.inl rfl | exact Or.inr (Or.inl rfl) | exact Or.inr (Or.inr rfl)) (by rfl) (by rfl)) (sa_cons (se_type (by exact ⟨rfl, rfl, by decide, z_tuple, by first | rfl | decide +kernel⟩) cs_tuple (sa_cons (se_var 10 (by rfl) (by first | exact Or.inl rfl | exact Or.inr (Or.inl rfl) | exact Or.inr (Or.inr rfl)) (by rfl) (by rfl)) sa_nil (fun _ => by rfl)) (fun _ => by rfl) (fun _ => by rfl)) (sa_cons (se_var 13 (by rfl) (by first | exact Or.inl rfl | exact Or.inr (Or.inl rfl) | exact Or.inr (Or.inr rfl)) (by rfl) (by rfl)) (sa_cons (se_call (OwnM.own o__law_take (by rfl) (by rfl) (Nat.le_of_ble_eq_true (by rfl)) (by exact ⟨rfl, rfl, rfl, rfl, rfl⟩)) (sa_cons (se_var 4 (by rfl) (by first | exact Or.inl rfl | exact Or.inr (Or.inl rfl) | exact Or.inr (Or.inr rfl)) (by rfl) (by rfl)) (sa_cons se_int sa_nil (fun _ => by rfl)) (fun _ => by rfl)) (fun _ => by rfl) (fun _ => by rfl)) sa_nil (fun _ => by rfl)) (fun _ => by rfl)) (fun _ => by rfl)) (fun _ => by rfl)) (fun _ => by rfl)) (fun _ => by rfl)) (fun _ => by rfl))))))))))))))
theorem own__law_state {P : Program} {w : World} {K : PySem.W.Frag} {mg : Str → Option Value} {base : Heap} {fa : Addr} {fd : FuncData} (F : Fun K "_law_state" "_law_state" s__law_state fa fd) (hm : mg "_law_state" = some (.ref fa)) (z_range : mg "range" = none) (o__law_take : OwnM P w K mg base 1 "_law_take" g__law_take) (z_tuple : mg "tuple" = none) (o__law_number : OwnM P w K mg base 1 "_law_number" g__law_number) (z_len : mg "len" = none) (o__law_payload : OwnM P w K mg base 2 "_law_payload" g__law_payload) : OwnM P w K mg base 3 "_law_state" g__law_state :=
  ownM F hm (F.binds (ps := ["number", "code", "count", "process"]) fun _ _ _ _ _ _ us hl => match us, hl with | [_, _, _, _], _ => rfl) sc__law_state (ss__law_state z_range o__law_take z_tuple o__law_number z_len o__law_payload) (fun _ _ _ h => gB_len _ _ _ h) (fun _ _ _ _ h => gB_gives _ _ _ _ h)
abbrev N_is_ended : List Str := ["code", "state"]
theorem sc_is_ended : FnScope N_is_ended ["code", "state"] (defScope s_is_ended) := ⟨rfl, rfl, rfl, by decide +kernel, rfl, by decide +kernel, by decide +kernel⟩
noncomputable def b_is_ended : Es :=
  (xRet (fOr (fBin vGe (fIx vIx (fVar 1) (fC (.int 0))) (fCall gLen (aCons (fVar 0) aNil))) (fOr (fBin vEq (fIx vIx (fIx vIx (fVar 0) (fIx vIx (fVar 1) (fC (.int 0)))) (fC (.int 0))) (fC (.str (PySem.Str.ofString "end")))) (fBin vGe (fIx vIx (fVar 1) (fC (.int 5))) (fC (.int 40))))))
noncomputable def g_is_ended : Fn := gB b_is_ended N_is_ended 2
theorem gd_is_ended (a0 a1 : Val) (st : Store) : g_is_ended [a0, a1] st = fin3 st (b_is_ended [some a0, some a1] st) := gB_eq rfl
theorem ss_is_ended {P : Program} {w : World} {K : PySem.W.Frag} {mg : Str → Option Value} {base : Heap} (z_len : mg "len" = none) (c_FUEL : ∃ t, mg "FUEL" = some (.int 40 t)) :
  SSs ⟨P, w, K, mg, base, N_is_ended, defScope s_is_ended, fun _ => true, 0, sc_is_ended.nd⟩ (defBody s_is_ended) b_is_ended :=
  (ssl_one (ss_ret (se_or (se_cmp os_ge (se_ix xs_ix (se_var 1 (by rfl) (by first | exact Or.inl rfl | exact Or.inr (Or.inl rfl) | exact Or.inr (Or.inr rfl)) (by rfl) (by rfl)) se_int (fun _ _ => rfl)) (se_builtin (by exact ⟨rfl, rfl, by decide, z_len, by first | rfl | decide +kernel⟩) cs_len (sa_cons (se_var 0 (by rfl) (by first | exact Or.inl rfl | exact Or.inr (Or.inl rfl) | exact Or.inr (Or.inr rfl)) (by rfl) (by rfl)) sa_nil (fun _ => by rfl)) (fun _ => by rfl) (fun _ => by rfl)) (by rfl)) (se_or (se_cmp os_eq (se_ix xs_ix (se_ix xs_ix (se_var 0 (by rfl) (by first | exact Or.inl rfl | exact Or.inr (Or.inl rfl) | exact Or.inr (Or.inr rfl)) (by rfl) (by rfl)) (se_ix xs_ix (se_var 1 (by rfl) (by first | exact Or.inl rfl | exact Or.inr (Or.inl rfl) | exact Or.inr (Or.inr rfl)) (by rfl) (by rfl)) se_int (fun _ _ => rfl)) (fun _ _ => rfl)) se_int (fun _ _ => rfl)) se_str (by rfl)) (se_one (se_cmp os_ge (se_ix xs_ix (se_var 1 (by rfl) (by first | exact Or.inl rfl | exact Or.inr (Or.inl rfl) | exact Or.inr (Or.inr rfl)) (by rfl) (by rfl)) se_int (fun _ _ => rfl)) (se_glob (v := .int 40) (u := .int 40) (z := .int 40 c_FUEL.choose) (by rfl) (by exact c_FUEL.choose_spec) ⟨_, rfl⟩ (fun _ _ => .int _) (by rfl)) (by rfl)))))))
theorem own_is_ended {P : Program} {w : World} {K : PySem.W.Frag} {mg : Str → Option Value} {base : Heap} {fa : Addr} {fd : FuncData} (F : Fun K "is_ended" "is_ended" s_is_ended fa fd) (hm : mg "is_ended" = some (.ref fa)) (z_len : mg "len" = none) (c_FUEL : ∃ t, mg "FUEL" = some (.int 40 t)) : OwnM P w K mg base 1 "is_ended" g_is_ended :=
  ownM F hm (F.binds (ps := ["code", "state"]) fun _ _ _ _ _ _ us hl => match us, hl with | [_, _], _ => rfl) sc_is_ended (ss_is_ended z_len c_FUEL) (fun _ _ _ h => gB_len _ _ _ h) (fun _ _ _ _ h => gB_gives _ _ _ _ h)
abbrev N_crowd_of : List Str := ["code", "state"]
theorem sc_crowd_of : FnScope N_crowd_of ["code", "state"] (defScope s_crowd_of) := ⟨rfl, rfl, rfl, by decide +kernel, rfl, by decide +kernel, by decide +kernel⟩
noncomputable def b_crowd_of : Es :=
  (xSeq (xIf (tOr2 (tV (fCall g_is_ended (aCons (fVar 0) (aCons (fVar 1) aNil)))) (tV (fBin vNotIn (fIx vIx (fIx vIx (fVar 0) (fIx vIx (fVar 1) (fC (.int 0)))) (fC (.int 0))) (fTup (aCons (fC (.str (PySem.Str.ofString "get"))) (aCons (fC (.str (PySem.Str.ofString "hold"))) aNil)))))) (xRet (fC .non)) xNil)
  (xRet (fIx vIx (fIx vIx (fVar 0) (fIx vIx (fVar 1) (fC (.int 0)))) (fC (.int 2)))))
noncomputable def g_crowd_of : Fn := gB b_crowd_of N_crowd_of 2
theorem gd_crowd_of (a0 a1 : Val) (st : Store) : g_crowd_of [a0, a1] st = fin3 st (b_crowd_of [some a0, some a1] st) := gB_eq rfl
theorem ss_crowd_of {P : Program} {w : World} {K : PySem.W.Frag} {mg : Str → Option Value} {base : Heap} (o_is_ended : OwnM P w K mg base 1 "is_ended" g_is_ended) :
  SSs ⟨P, w, K, mg, base, N_crowd_of, defScope s_crowd_of, fun _ => true, 1, sc_crowd_of.nd⟩ (defBody s_crowd_of) b_crowd_of :=
  (ssl_cons (ss_if (SW.st (sw_or (st_val (se_call (OwnM.own o_is_ended (by rfl) (by rfl) (Nat.le_of_ble_eq_true (by rfl)) (by exact ⟨rfl, rfl, rfl, rfl, rfl⟩)) (sa_cons (se_var 0 (by rfl) (by first | exact Or.inl rfl | exact Or.inr (Or.inl rfl) | exact Or.inr (Or.inr rfl)) (by rfl) (by rfl)) (sa_cons (se_var 1 (by rfl) (by first | exact Or.inl rfl | exact Or.inr (Or.inl rfl) | exact Or.inr (Or.inr rfl)) (by rfl) (by rfl)) sa_nil (fun _ => by rfl)) (fun _ => by rfl)) (fun _ => by rfl) (fun _ => by rfl)) (fun _ _ => rfl)) (sw_or1 (st_cmp os_notIn (se_ix xs_ix (se_ix xs_ix (se_var 0 (by rfl) (by first | exact Or.inl rfl | exact Or.inr (Or.inl rfl) | exact Or.inr (Or.inr rfl)) (by rfl) (by rfl)) (se_ix xs_ix (se_var 1 (by rfl) (by first | exact Or.inl rfl | exact Or.inr (Or.inl rfl) | exact Or.inr (Or.inr rfl)) (by rfl) (by rfl)) se_int (fun _ _ => rfl)) (fun _ _ => rfl)) se_int (fun _ _ => rfl)) (se_tup (sa_cons se_str (sa_cons se_str sa_nil (fun _ => by rfl)) (fun _ => by rfl))) (by rfl))))) (ssl_one (ss_ret se_non)) ssl_nil)
  (ssl_one (ss_ret (se_ix xs_ix (se_ix xs_ix (se_var 0 (by rfl) (by first | exact Or.inl rfl | exact Or.inr (Or.inl rfl) | exact Or.inr (Or.inr rfl)) (by rfl) (by rfl)) (se_ix xs_ix (se_var 1 (by rfl) (by first | exact Or.inl rfl | exact Or.inr (Or.inl rfl) | exact Or.inr (Or.inr rfl)) (by rfl) (by rfl)) se_int (fun _ _ => rfl)) (fun _ _ => rfl)) se_int (fun _ _ => rfl)))))
theorem own_crowd_of {P : Program} {w : World} {K : PySem.W.Frag} {mg : Str → Option Value} {base : Heap} {fa : Addr} {fd : FuncData} (F : Fun K "crowd_of" "crowd_of" s_crowd_of fa fd) (hm : mg "crowd_of" = some (.ref fa)) (o_is_ended : OwnM P w K mg base 1 "is_ended" g_is_ended) : OwnM P w K mg base 2 "crowd_of" g_crowd_of :=
  ownM F hm (F.binds (ps := ["code", "state"]) fun _ _ _ _ _ _ us hl => match us, hl with | [_, _], _ => rfl) sc_crowd_of (ss_crowd_of o_is_ended) (fun _ _ _ h => gB_len _ _ _ h) (fun _ _ _ _ h => gB_gives _ _ _ _ h)
abbrev N_first_item : List Str := ["inbox", "crowd", "place", "item"]
theorem sc_first_item : FnScope N_first_item ["inbox", "crowd"] (defScope s_first_item) := ⟨rfl, rfl, rfl, by decide +kernel, rfl, by decide +kernel, by decide +kernel⟩
noncomputable def b_first_item : Es :=
  (xSeq (xFor (.many [2, 3]) (iEnumV (aCons (fVar 0) aNil)) (xIf (tV (fBin vIn (fIx vIx (fVar 3) (fC (.int 0))) (fVar 1))) (xRet (fVar 2)) xNil))
  (xRet (fC .non)))
noncomputable def g_first_item : Fn := gB b_first_item N_first_item 2
theorem gd_first_item (a0 a1 : Val) (st : Store) : g_first_item [a0, a1] st = fin3 st (b_first_item [some a0, some a1, none, none] st) := gB_eq rfl
theorem ss_first_item {P : Program} {w : World} {K : PySem.W.Frag} {mg : Str → Option Value} {base : Heap} (z_enumerate : mg "enumerate" = none) :
  SSs ⟨P, w, K, mg, base, N_first_item, defScope s_first_item, fun _ => true, 0, sc_first_item.nd⟩ (defBody s_first_item) b_first_item :=
  (ssl_cons (ss_for (tg_many (tgs_cons (tg_one 2 (by rfl) (by first | exact Or.inl rfl | exact Or.inr rfl) (by rfl)) (tgs_cons (tg_one 3 (by rfl) (by first | exact Or.inl rfl | exact Or.inr rfl) (by rfl)) tgs_nil (fun _ => by rfl)) (fun _ => by rfl)) (fun _ => by rfl) (fun _ => by rfl)) (si_enum (by exact ⟨rfl, rfl, by decide, z_enumerate, by first | rfl | decide +kernel⟩) (sa_cons (se_var 0 (by rfl) (by first | exact Or.inl rfl | exact Or.inr (Or.inl rfl) | exact Or.inr (Or.inr rfl)) (by rfl) (by rfl)) sa_nil (fun _ => by rfl)) (fun _ => by rfl)) (ssl_one (ss_if (st_cmp os_in (se_ix xs_ix (se_var 3 (by rfl) (by first | exact Or.inl rfl | exact Or.inr (Or.inl rfl) | exact Or.inr (Or.inr rfl)) (by rfl) (by rfl)) se_int (fun _ _ => rfl)) (se_var 1 (by rfl) (by first | exact Or.inl rfl | exact Or.inr (Or.inl rfl) | exact Or.inr (Or.inr rfl)) (by rfl) (by rfl)) (by rfl)) (ssl_one (ss_ret (se_var 2 (by rfl) (by first | exact Or.inl rfl | exact Or.inr (Or.inl rfl) | exact Or.inr (Or.inr rfl)) (by rfl) (by rfl)))) ssl_nil)) (fun _ _ => rfl))
  (ssl_one (ss_ret se_non)))
theorem own_first_item {P : Program} {w : World} {K : PySem.W.Frag} {mg : Str → Option Value} {base : Heap} {fa : Addr} {fd : FuncData} (F : Fun K "first_item" "first_item" s_first_item fa fd) (hm : mg "first_item" = some (.ref fa)) (z_enumerate : mg "enumerate" = none) : OwnM P w K mg base 1 "first_item" g_first_item :=
  ownM F hm (F.binds (ps := ["inbox", "crowd"]) fun _ _ _ _ _ _ us hl => match us, hl with | [_, _], _ => rfl) sc_first_item (ss_first_item z_enumerate) (fun _ _ _ h => gB_len _ _ _ h) (fun _ _ _ _ h => gB_gives _ _ _ _ h)
abbrev N_waits_for : List Str := ["code", "state", "crowd"]
theorem sc_waits_for : FnScope N_waits_for ["code", "state"] (defScope s_waits_for) := ⟨rfl, rfl, rfl, by decide +kernel, rfl, by decide +kernel, by decide +kernel⟩
noncomputable def b_waits_for : Es :=
  (xSeq (xSet (.one 2) (fCall g_crowd_of (aCons (fVar 0) (aCons (fVar 1) aNil))))
  (xSeq (xIf (tOr2 (tV (fBin vIs (fVar 2) (fC .non))) (tV (fBin vIsnt (fCall g_first_item (aCons (fIx vIx (fVar 1) (fC (.int 4))) (aCons (fVar 2) aNil))) (fC .non)))) (xRet (fC .non)) xNil)
  (xRet (fVar 2))))
noncomputable def g_waits_for : Fn := gB b_waits_for N_waits_for 2
theorem gd_waits_for (a0 a1 : Val) (st : Store) : g_waits_for [a0, a1] st = fin3 st (b_waits_for [some a0, some a1, none] st) := gB_eq rfl
theorem ss_waits_for {P : Program} {w : World} {K : PySem.W.Frag} {mg : Str → Option Value} {base : Heap} (o_crowd_of : OwnM P w K mg base 2 "crowd_of" g_crowd_of) (o_first_item : OwnM P w K mg base 1 "first_item" g_first_item) :
  SSs ⟨P, w, K, mg, base, N_waits_for, defScope s_waits_for, fun _ => true, 2, sc_waits_for.nd⟩ (defBody s_waits_for) b_waits_for :=
  (ssl_cons (ss_set (tg_one 2 (by rfl) (by first | exact Or.inl rfl | exact Or.inr rfl) (by rfl)) (se_call (OwnM.own o_crowd_of (by rfl) (by rfl) (Nat.le_of_ble_eq_true (by rfl)) (by exact ⟨rfl, rfl, rfl, rfl, rfl⟩)) (sa_cons (se_var 0 (by rfl) (by first | exact Or.inl rfl | exact Or.inr (Or.inl rfl) | exact Or.inr (Or.inr rfl)) (by rfl) (by rfl)) (sa_cons (se_var 1 (by rfl) (by first | exact Or.inl rfl | exact Or.inr (Or.inl rfl) | exact Or.inr (Or.inr rfl)) (by rfl) (by rfl)) sa_nil (fun _ => by rfl)) (fun _ => by rfl)) (fun _ => by rfl) (fun _ => by rfl)) (fun _ _ => by rfl) (fun _ => by rfl) (fun _ => by rfl))
  (ssl_cons (ss_if (SW.st (sw_or (st_cmp os_is (se_var 2 (by rfl) (by first | exact Or.inl rfl | exact Or.inr (Or.inl rfl) | exact Or.inr (Or.inr rfl)) (by rfl) (by rfl)) se_non (by rfl)) (sw_or1 (st_cmp os_isnt (se_call (OwnM.own o_first_item (by rfl) (by rfl) (Nat.le_of_ble_eq_true (by rfl)) (by exact ⟨rfl, rfl, rfl, rfl, rfl⟩)) (sa_cons (se_ix xs_ix (se_var 1 (by rfl) (by first | exact Or.inl rfl | exact Or.inr (Or.inl rfl) | exact Or.inr (Or.inr rfl)) (by rfl) (by rfl)) se_int (fun _ _ => rfl)) (sa_cons (se_var 2 (by rfl) (by first | exact Or.inl rfl | exact Or.inr (Or.inl rfl) | exact Or.inr (Or.inr rfl)) (by rfl) (by rfl)) sa_nil (fun _ => by rfl)) (fun _ => by rfl)) (fun _ => by rfl) (fun _ => by rfl)) se_non (by rfl))))) (ssl_one (ss_ret se_non)) ssl_nil)
  (ssl_one (ss_ret (se_var 2 (by rfl) (by first | exact Or.inl rfl | exact Or.inr (Or.inl rfl) | exact Or.inr (Or.inr rfl)) (by rfl) (by rfl))))))
theorem own_waits_for {P : Program} {w : World} {K : PySem.W.Frag} {mg : Str → Option Value} {base : Heap} {fa : Addr} {fd : FuncData} (F : Fun K "waits_for" "waits_for" s_waits_for fa fd) (hm : mg "waits_for" = some (.ref fa)) (o_crowd_of : OwnM P w K mg base 2 "crowd_of" g_crowd_of) (o_first_item : OwnM P w K mg base 1 "first_item" g_first_item) : OwnM P w K mg base 3 "waits_for" g_waits_for :=
  ownM F hm (F.binds (ps := ["code", "state"]) fun _ _ _ _ _ _ us hl => match us, hl with | [_, _], _ => rfl) sc_waits_for (ss_waits_for o_crowd_of o_first_item) (fun _ _ _ h => gB_len _ _ _ h) (fun _ _ _ _ h => gB_gives _ _ _ _ h)
abbrev N_can_act : List Str := ["code", "state"]
theorem sc_can_act : FnScope N_can_act ["code", "state"] (defScope s_can_act) := ⟨rfl, rfl, rfl, by decide +kernel, rfl, by decide +kernel, by decide +kernel⟩
noncomputable def b_can_act : Es :=
  (xRet (fAnd (fNot (fCall g_is_ended (aCons (fVar 0) (aCons (fVar 1) aNil)))) (fBin vIs (fCall g_waits_for (aCons (fVar 0) (aCons (fVar 1) aNil))) (fC .non))))
noncomputable def g_can_act : Fn := gB b_can_act N_can_act 2
theorem gd_can_act (a0 a1 : Val) (st : Store) : g_can_act [a0, a1] st = fin3 st (b_can_act [some a0, some a1] st) := gB_eq rfl
theorem ss_can_act {P : Program} {w : World} {K : PySem.W.Frag} {mg : Str → Option Value} {base : Heap} (o_is_ended : OwnM P w K mg base 1 "is_ended" g_is_ended) (o_waits_for : OwnM P w K mg base 3 "waits_for" g_waits_for) :
  SSs ⟨P, w, K, mg, base, N_can_act, defScope s_can_act, fun _ => true, 3, sc_can_act.nd⟩ (defBody s_can_act) b_can_act :=
  (ssl_one (ss_ret (se_and (se_not (se_call (OwnM.own o_is_ended (by rfl) (by rfl) (Nat.le_of_ble_eq_true (by rfl)) (by exact ⟨rfl, rfl, rfl, rfl, rfl⟩)) (sa_cons (se_var 0 (by rfl) (by first | exact Or.inl rfl | exact Or.inr (Or.inl rfl) | exact Or.inr (Or.inr rfl)) (by rfl) (by rfl)) (sa_cons (se_var 1 (by rfl) (by first | exact Or.inl rfl | exact Or.inr (Or.inl rfl) | exact Or.inr (Or.inr rfl)) (by rfl) (by rfl)) sa_nil (fun _ => by rfl)) (fun _ => by rfl)) (fun _ => by rfl) (fun _ => by rfl))) (se_one (se_cmp os_is (se_call (OwnM.own o_waits_for (by rfl) (by rfl) (Nat.le_of_ble_eq_true (by rfl)) (by exact ⟨rfl, rfl, rfl, rfl, rfl⟩)) (sa_cons (se_var 0 (by rfl) (by first | exact Or.inl rfl | exact Or.inr (Or.inl rfl) | exact Or.inr (Or.inr rfl)) (by rfl) (by rfl)) (sa_cons (se_var 1 (by rfl) (by first | exact Or.inl rfl | exact Or.inr (Or.inl rfl) | exact Or.inr (Or.inr rfl)) (by rfl) (by rfl)) sa_nil (fun _ => by rfl)) (fun _ => by rfl)) (fun _ => by rfl) (fun _ => by rfl)) se_non (by rfl))))))
theorem own_can_act {P : Program} {w : World} {K : PySem.W.Frag} {mg : Str → Option Value} {base : Heap} {fa : Addr} {fd : FuncData} (F : Fun K "can_act" "can_act" s_can_act fa fd) (hm : mg "can_act" = some (.ref fa)) (o_is_ended : OwnM P w K mg base 1 "is_ended" g_is_ended) (o_waits_for : OwnM P w K mg base 3 "waits_for" g_waits_for) : OwnM P w K mg base 4 "can_act" g_can_act :=
  ownM F hm (F.binds (ps := ["code", "state"]) fun _ _ _ _ _ _ us hl => match us, hl with | [_, _], _ => rfl) sc_can_act (ss_can_act o_is_ended o_waits_for) (fun _ _ _ h => gB_len _ _ _ h) (fun _ _ _ _ h => gB_gives _ _ _ _ h)
abbrev N__law_sent : List Str := ["instruction", "state", "one"]
theorem sc__law_sent : FnScope N__law_sent ["instruction", "state"] (defScope s__law_sent) := ⟨rfl, rfl, rfl, by decide +kernel, rfl, by decide +kernel, by decide +kernel⟩
noncomputable def b__law_sent : Es :=
  (xSeq (xIf (tV (fBin vEq (fIx vIx (fVar 0) (fC (.int 0))) (fC (.str (PySem.Str.ofString "send"))))) (xRet (fLst (aCons (fTup (aCons (fIx vIx (fVar 0) (fC (.int 1))) (aCons (fTup (aCons (fC (.str (PySem.Str.ofString "number"))) (aCons (fIx vIx (fIx vIx (fVar 1) (fC (.int 1))) (fIx vIx (fVar 0) (fC (.int 2)))) aNil))) aNil))) aNil))) xNil)
  (xSeq (xIf (tAnd2 (tV (fBin vEq (fIx vIx (fVar 0) (fC (.int 0))) (fC (.str (PySem.Str.ofString "answer"))))) (tV (fBin vIsnt (fIx vIx (fVar 1) (fC (.int 3))) (fC .non)))) (xRet (fLst (aCons (fTup (aCons (fIx vIx (fVar 1) (fC (.int 3))) (aCons (fTup (aCons (fC (.str (PySem.Str.ofString "number"))) (aCons (fIx vIx (fIx vIx (fVar 1) (fC (.int 1))) (fIx vIx (fVar 0) (fC (.int 1)))) aNil))) aNil))) aNil))) xNil)
  (xSeq (xIf (tAnd2 (tV (fBin vEq (fIx vIx (fVar 0) (fC (.int 0))) (fC (.str (PySem.Str.ofString "give"))))) (tV (fBin vIsnt (fIx vIx (fIx vIx (fVar 1) (fC (.int 2))) (fIx vIx (fVar 0) (fC (.int 2)))) (fC .non)))) (xSeq (xSet (.one 2) (fIx vIx (fIx vIx (fVar 1) (fC (.int 2))) (fIx vIx (fVar 0) (fC (.int 2)))))
  (xRet (fLst (aCons (fTup (aCons (fIx vIx (fVar 0) (fC (.int 1))) (aCons (fTup (aCons (fC (.str (PySem.Str.ofString "object"))) (aCons (fIx vIx (fVar 2) (fC (.int 0))) (aCons (fIx vIx (fVar 2) (fC (.int 1))) aNil)))) aNil))) aNil)))) xNil)
  (xRet (fLst aNil)))))
noncomputable def g__law_sent : Fn := gB b__law_sent N__law_sent 2
theorem gd__law_sent (a0 a1 : Val) (st : Store) : g__law_sent [a0, a1] st = fin3 st (b__law_sent [some a0, some a1, none] st) := gB_eq rfl
theorem ss__law_sent {P : Program} {w : World} {K : PySem.W.Frag} {mg : Str → Option Value} {base : Heap}  :
  SSs ⟨P, w, K, mg, base, N__law_sent, defScope s__law_sent, fun _ => true, 0, sc__law_sent.nd⟩ (defBody s__law_sent) b__law_sent :=
  (ssl_cons (ss_if (st_cmp os_eq (se_ix xs_ix (se_var 0 (by rfl) (by first | exact Or.inl rfl | exact Or.inr (Or.inl rfl) | exact Or.inr (Or.inr rfl)) (by rfl) (by rfl)) se_int (fun _ _ => rfl)) se_str (by rfl)) (ssl_one (ss_ret (se_lst (sa_cons (se_tup (sa_cons (se_ix xs_ix (se_var 0 (by rfl) (by first | exact Or.inl rfl | exact Or.inr (Or.inl rfl) | exact Or.inr (Or.inr rfl)) (by rfl) (by rfl)) se_int (fun _ _ => rfl)) (sa_cons (se_tup (sa_cons se_str (sa_cons (se_ix xs_ix (se_ix xs_ix (se_var 1 (by rfl) (by first | exact Or.inl rfl | exact Or.inr (Or.inl rfl) | exact Or.inr (Or.inr rfl)) (by rfl) (by rfl)) se_int (fun _ _ => rfl)) (se_ix xs_ix (se_var 0 (by rfl) (by first | exact Or.inl rfl | exact Or.inr (Or.inl rfl) | exact Or.inr (Or.inr rfl)) (by rfl) (by rfl)) se_int (fun _ _ => rfl)) (fun _ _ => rfl)) sa_nil (fun _ => by rfl)) (fun _ => by rfl))) sa_nil (fun _ => by rfl)) (fun _ => by rfl))) sa_nil (fun _ => by rfl))))) ssl_nil)
  (ssl_cons (ss_if (SW.st (sw_and (st_cmp os_eq (se_ix xs_ix (se_var 0 (by rfl) (by first | exact Or.inl rfl | exact Or.inr (Or.inl rfl) | exact Or.inr (Or.inr rfl)) (by rfl) (by rfl)) se_int (fun _ _ => rfl)) se_str (by rfl)) (sw_and1 (st_cmp os_isnt (se_ix xs_ix (se_var 1 (by rfl) (by first | exact Or.inl rfl | exact Or.inr (Or.inl rfl) | exact Or.inr (Or.inr rfl)) (by rfl) (by rfl)) se_int (fun _ _ => rfl)) se_non (by rfl))))) (ssl_one (ss_ret (se_lst (sa_cons (se_tup (sa_cons (se_ix xs_ix (se_var 1 (by rfl) (by first | exact Or.inl rfl | exact Or.inr (Or.inl rfl) | exact Or.inr (Or.inr rfl)) (by rfl) (by rfl)) se_int (fun _ _ => rfl)) (sa_cons (se_tup (sa_cons se_str (sa_cons (se_ix xs_ix (se_ix xs_ix (se_var 1 (by rfl) (by first | exact Or.inl rfl | exact Or.inr (Or.inl rfl) | exact Or.inr (Or.inr rfl)) (by rfl) (by rfl)) se_int (fun _ _ => rfl)) (se_ix xs_ix (se_var 0 (by rfl) (by first | exact Or.inl rfl | exact Or.inr (Or.inl rfl) | exact Or.inr (Or.inr rfl)) (by rfl) (by rfl)) se_int (fun _ _ => rfl)) (fun _ _ => rfl)) sa_nil (fun _ => by rfl)) (fun _ => by rfl))) sa_nil (fun _ => by rfl)) (fun _ => by rfl))) sa_nil (fun _ => by rfl))))) ssl_nil)
  (ssl_cons (ss_if (SW.st (sw_and (st_cmp os_eq (se_ix xs_ix (se_var 0 (by rfl) (by first | exact Or.inl rfl | exact Or.inr (Or.inl rfl) | exact Or.inr (Or.inr rfl)) (by rfl) (by rfl)) se_int (fun _ _ => rfl)) se_str (by rfl)) (sw_and1 (st_cmp os_isnt (se_ix xs_ix (se_ix xs_ix (se_var 1 (by rfl) (by first | exact Or.inl rfl | exact Or.inr (Or.inl rfl) | exact Or.inr (Or.inr rfl)) (by rfl) (by rfl)) se_int (fun _ _ => rfl)) (se_ix xs_ix (se_var 0 (by rfl) (by first | exact Or.inl rfl | exact Or.inr (Or.inl rfl) | exact Or.inr (Or.inr rfl)) (by rfl) (by rfl)) se_int (fun _ _ => rfl)) (fun _ _ => rfl)) se_non (by rfl))))) (ssl_cons (ss_set (tg_one 2 (by rfl) (by first | exact Or.inl rfl | exact Or.inr rfl) (by rfl)) (se_ix xs_ix (se_ix xs_ix (se_var 1 (by rfl) (by first | exact Or.inl rfl | exact Or.inr (Or.inl rfl) | exact Or.inr (Or.inr rfl)) (by rfl) (by rfl)) se_int (fun _ _ => rfl)) (se_ix xs_ix (se_var 0 (by rfl) (by first | exact Or.inl rfl | exact Or.inr (Or.inl rfl) | exact Or.inr (Or.inr rfl)) (by rfl) (by rfl)) se_int (fun _ _ => rfl)) (fun _ _ => rfl)) (fun _ _ => by rfl) (fun _ => by rfl) (fun _ => by rfl))
  (ssl_one (ss_ret (se_lst (sa_cons (se_tup (sa_cons (se_ix xs_ix (se_var 0 (by rfl) (by first | exact Or.inl rfl | exact Or.inr (Or.inl rfl) | exact Or.inr (Or.inr rfl)) (by rfl) (by rfl)) se_int (fun _ _ => rfl)) (sa_cons (se_tup (sa_cons se_str (sa_cons (se_ix xs_ix (se_var 2 (by rfl) (by first | exact Or.inl rfl | exact Or.inr (Or.inl rfl) | exact Or.inr (Or.inr rfl)) (by rfl) (by rfl)) se_int (fun _ _ => rfl)) (sa_cons (se_ix xs_ix (se_var 2 (by rfl) (by first | exact Or.inl rfl | exact Or.inr (Or.inl rfl) | exact Or.inr (Or.inr rfl)) (by rfl) (by rfl)) se_int (fun _ _ => rfl)) sa_nil (fun _ => by rfl)) (fun _ => by rfl)) (fun _ => by rfl))) sa_nil (fun _ => by rfl)) (fun _ => by rfl))) sa_nil (fun _ => by rfl)))))) ssl_nil)
  (ssl_one (ss_ret (se_lst sa_nil))))))
theorem own__law_sent {P : Program} {w : World} {K : PySem.W.Frag} {mg : Str → Option Value} {base : Heap} {fa : Addr} {fd : FuncData} (F : Fun K "_law_sent" "_law_sent" s__law_sent fa fd) (hm : mg "_law_sent" = some (.ref fa))  : OwnM P w K mg base 1 "_law_sent" g__law_sent :=
  ownM F hm (F.binds (ps := ["instruction", "state"]) fun _ _ _ _ _ _ us hl => match us, hl with | [_, _], _ => rfl) sc__law_sent (ss__law_sent ) (fun _ _ _ h => gB_len _ _ _ h) (fun _ _ _ _ h => gB_gives _ _ _ _ h)
abbrev N__law_put : List Str := ["items", "place", "one"]
theorem sc__law_put : FnScope N__law_put ["items", "place", "one"] (defScope s__law_put) := ⟨rfl, rfl, rfl, by decide +kernel, rfl, by decide +kernel, by decide +kernel⟩
noncomputable def b__law_put : Es :=
  (xRet (fBin vAdd (fBin vAdd (fSl vSl (fVar 0) oNone (oSome (fVar 1))) (fTup (aCons (fVar 2) aNil))) (fSl vSl (fVar 0) (oSome (fBin vAdd (fVar 1) (fC (.int 1)))) oNone)))
noncomputable def g__law_put : Fn := gB b__law_put N__law_put 3
theorem gd__law_put (a0 a1 a2 : Val) (st : Store) : g__law_put [a0, a1, a2] st = fin3 st (b__law_put [some a0, some a1, some a2] st) := gB_eq rfl
theorem ss__law_put {P : Program} {w : World} {K : PySem.W.Frag} {mg : Str → Option Value} {base : Heap}  :
  SSs ⟨P, w, K, mg, base, N__law_put, defScope s__law_put, fun _ => true, 0, sc__law_put.nd⟩ (defBody s__law_put) b__law_put :=
  (ssl_one (ss_ret (se_op os_add (se_op os_add (se_slice ls_sl (se_var 0 (by rfl) (by first | exact Or.inl rfl | exact Or.inr (Or.inl rfl) | exact Or.inr (Or.inr rfl)) (by rfl) (by rfl)) so_none (so_some (se_var 1 (by rfl) (by first | exact Or.inl rfl | exact Or.inr (Or.inl rfl) | exact Or.inr (Or.inr rfl)) (by rfl) (by rfl)))) (se_tup (sa_cons (se_var 2 (by rfl) (by first | exact Or.inl rfl | exact Or.inr (Or.inl rfl) | exact Or.inr (Or.inr rfl)) (by rfl) (by rfl)) sa_nil (fun _ => by rfl)))) (se_slice ls_sl (se_var 0 (by rfl) (by first | exact Or.inl rfl | exact Or.inr (Or.inl rfl) | exact Or.inr (Or.inr rfl)) (by rfl) (by rfl)) (so_some (se_op os_add (se_var 1 (by rfl) (by first | exact Or.inl rfl | exact Or.inr (Or.inl rfl) | exact Or.inr (Or.inr rfl)) (by rfl) (by rfl)) se_int)) so_none))))
theorem own__law_put {P : Program} {w : World} {K : PySem.W.Frag} {mg : Str → Option Value} {base : Heap} {fa : Addr} {fd : FuncData} (F : Fun K "_law_put" "_law_put" s__law_put fa fd) (hm : mg "_law_put" = some (.ref fa))  : OwnM P w K mg base 1 "_law_put" g__law_put :=
  ownM F hm (F.binds (ps := ["items", "place", "one"]) fun _ _ _ _ _ _ us hl => match us, hl with | [_, _, _], _ => rfl) sc__law_put (ss__law_put ) (fun _ _ _ h => gB_len _ _ _ h) (fun _ _ _ _ h => gB_gives _ _ _ _ h)
abbrev N__law_first_of : List Str := ["inbox", "crowd", "k"]
theorem sc__law_first_of : FnScope N__law_first_of ["inbox", "crowd"] (defScope s__law_first_of) := ⟨rfl, rfl, rfl, by decide +kernel, rfl, by decide +kernel, by decide +kernel⟩
noncomputable def b__law_first_of : Es :=
  (xSeq (xFor (.one 2) (iRange1 (aCons (fCall gLen (aCons (fVar 0) aNil)) aNil)) (xIf (tV (fBin vIn (fIx vIx (fIx vIx (fVar 0) (fVar 2)) (fC (.int 0))) (fVar 1))) (xRet (fVar 2)) xNil))
  (xRet (fC .non)))
noncomputable def g__law_first_of : Fn := gB b__law_first_of N__law_first_of 2
theorem gd__law_first_of (a0 a1 : Val) (st : Store) : g__law_first_of [a0, a1] st = fin3 st (b__law_first_of [some a0, some a1, none] st) := gB_eq rfl
theorem ss__law_first_of {P : Program} {w : World} {K : PySem.W.Frag} {mg : Str → Option Value} {base : Heap} (z_len : mg "len" = none) (z_range : mg "range" = none) :
  SSs ⟨P, w, K, mg, base, N__law_first_of, defScope s__law_first_of, fun _ => true, 0, sc__law_first_of.nd⟩ (defBody s__law_first_of) b__law_first_of :=
  (ssl_cons (ss_for (tg_one 2 (by rfl) (by first | exact Or.inl rfl | exact Or.inr rfl) (by rfl)) (si_range1 (by exact ⟨rfl, rfl, by decide, z_range, by first | rfl | decide +kernel⟩) (sa_cons (se_builtin (by exact ⟨rfl, rfl, by decide, z_len, by first | rfl | decide +kernel⟩) cs_len (sa_cons (se_var 0 (by rfl) (by first | exact Or.inl rfl | exact Or.inr (Or.inl rfl) | exact Or.inr (Or.inr rfl)) (by rfl) (by rfl)) sa_nil (fun _ => by rfl)) (fun _ => by rfl) (fun _ => by rfl)) sa_nil (fun _ => by rfl)) (fun _ => by rfl)) (ssl_one (ss_if (st_cmp os_in (se_ix xs_ix (se_ix xs_ix (se_var 0 (by rfl) (by first | exact Or.inl rfl | exact Or.inr (Or.inl rfl) | exact Or.inr (Or.inr rfl)) (by rfl) (by rfl)) (se_var 2 (by rfl) (by first | exact Or.inl rfl | exact Or.inr (Or.inl rfl) | exact Or.inr (Or.inr rfl)) (by rfl) (by rfl)) (fun _ _ => rfl)) se_int (fun _ _ => rfl)) (se_var 1 (by rfl) (by first | exact Or.inl rfl | exact Or.inr (Or.inl rfl) | exact Or.inr (Or.inr rfl)) (by rfl) (by rfl)) (by rfl)) (ssl_one (ss_ret (se_var 2 (by rfl) (by first | exact Or.inl rfl | exact Or.inr (Or.inl rfl) | exact Or.inr (Or.inr rfl)) (by rfl) (by rfl)))) ssl_nil)) (fun _ _ => rfl))
  (ssl_one (ss_ret se_non)))
theorem own__law_first_of {P : Program} {w : World} {K : PySem.W.Frag} {mg : Str → Option Value} {base : Heap} {fa : Addr} {fd : FuncData} (F : Fun K "_law_first_of" "_law_first_of" s__law_first_of fa fd) (hm : mg "_law_first_of" = some (.ref fa)) (z_len : mg "len" = none) (z_range : mg "range" = none) : OwnM P w K mg base 1 "_law_first_of" g__law_first_of :=
  ownM F hm (F.binds (ps := ["inbox", "crowd"]) fun _ _ _ _ _ _ us hl => match us, hl with | [_, _], _ => rfl) sc__law_first_of (ss__law_first_of z_len z_range) (fun _ _ _ h => gB_len _ _ _ h) (fun _ _ _ _ h => gB_gives _ _ _ _ h)
abbrev N__law_act : List Str := ["code", "number", "state", "at", "registers", "slots", "sender", "inbox", "acts", "made", "instruction", "word", "sent", "total", "place", "payload"]
theorem sc__law_act : FnScope N__law_act ["code", "number", "state"] (defScope s__law_act) := ⟨rfl, rfl, rfl, by decide +kernel, rfl, by decide +kernel, by decide +kernel⟩
noncomputable def b__law_act : Es :=
  (xSeq (xSet (.many [3, 4, 5, 6, 7, 8, 9]) (fVar 2))
  (xSeq (xSet (.one 10) (fIx vIx (fVar 0) (fVar 3)))
  (xSeq (xSet (.one 11) (fIx vIx (fVar 10) (fC (.int 0))))
  (xSeq (xSet (.one 12) (fCall g__law_sent (aCons (fVar 10) (aCons (fVar 2) aNil))))
  (xSeq (xSet (.one 3) (fBin vAdd (fVar 3) (fC (.int 1))))
  (xSeq (xIf (tV (fBin vEq (fVar 11) (fC (.str (PySem.Str.ofString "set"))))) (xSet (.one 4) (fCall g__law_put (aCons (fVar 4) (aCons (fIx vIx (fVar 10) (fC (.int 1))) (aCons (fIx vIx (fVar 10) (fC (.int 2))) aNil))))) xNil)
  (xSeq (xIf (tV (fBin vEq (fVar 11) (fC (.str (PySem.Str.ofString "add"))))) (xSeq (xSet (.one 13) (fBin vAdd (fIx vIx (fVar 4) (fIx vIx (fVar 10) (fC (.int 1)))) (fIx vIx (fVar 4) (fIx vIx (fVar 10) (fC (.int 2))))))
  (xSet (.one 4) (fCall g__law_put (aCons (fVar 4) (aCons (fIx vIx (fVar 10) (fC (.int 1))) (aCons (fBin vMod (fCall gInt (aCons (fVar 13) aNil)) (fC (.int 1000))) aNil)))))) xNil)
  (xSeq (xIf (tAnd2 (tV (fBin vEq (fVar 11) (fC (.str (PySem.Str.ofString "test"))))) (tV (fBin vEq (fIx vIx (fVar 4) (fIx vIx (fVar 10) (fC (.int 1)))) (fC (.int 0))))) (xSet (.one 3) (fIx vIx (fVar 10) (fC (.int 2)))) xNil)
  (xSeq (xIf (tV (fBin vEq (fVar 11) (fC (.str (PySem.Str.ofString "new"))))) (xSeq (xSet (.one 5) (fCall g__law_put (aCons (fVar 5) (aCons (fIx vIx (fVar 10) (fC (.int 1))) (aCons (fTup (aCons (fVar 1) (aCons (fVar 9) aNil))) aNil)))))
  (xSet (.one 9) (fBin vAdd (fVar 9) (fC (.int 1))))) xNil)
  (xSeq (xIf (tV (fBin vEq (fVar 11) (fC (.str (PySem.Str.ofString "drop"))))) (xSet (.one 5) (fCall g__law_put (aCons (fVar 5) (aCons (fIx vIx (fVar 10) (fC (.int 1))) (aCons (fC .non) aNil))))) xNil)
  (xSeq (xIf (tOr2 (tV (fBin vEq (fVar 11) (fC (.str (PySem.Str.ofString "get"))))) (tV (fBin vEq (fVar 11) (fC (.str (PySem.Str.ofString "hold")))))) (xSeq (xSet (.one 14) (fCall g__law_first_of (aCons (fVar 7) (aCons (fIx vIx (fVar 10) (fC (.int 2))) aNil))))
  (xSeq (xSet (.many [6, 15]) (fIx vIx (fVar 7) (fVar 14)))
  (xSeq (xSet (.one 7) (fBin vAdd (fSl vSl (fVar 7) oNone (oSome (fVar 14))) (fSl vSl (fVar 7) (oSome (fBin vAdd (fVar 14) (fC (.int 1)))) oNone)))
  (xIf (tV (fBin vEq (fVar 11) (fC (.str (PySem.Str.ofString "get"))))) (xSet (.one 4) (fCall g__law_put (aCons (fVar 4) (aCons (fIx vIx (fVar 10) (fC (.int 1))) (aCons (fIx vIx (fLst (aCons (fC (.int 0)) (aCons (fIx vIx (fVar 15) (fC (.int 1))) aNil))) (fCall gInt (aCons (fBin vEq (fIx vIx (fVar 15) (fC (.int 0))) (fC (.str (PySem.Str.ofString "number")))) aNil))) aNil))))) (xSet (.one 5) (fCall g__law_put (aCons (fVar 5) (aCons (fIx vIx (fVar 10) (fC (.int 1))) (aCons (fIx vIx (fLst (aCons (fC .non) (aCons (fSl vSl (fVar 15) (oSome (fC (.int 1))) oNone) aNil))) (fCall gInt (aCons (fBin vEq (fIx vIx (fVar 15) (fC (.int 0))) (fC (.str (PySem.Str.ofString "object")))) aNil))) aNil))))))))) xNil)
  (xRet (fLst (aCons (fTup (aCons (fVar 3) (aCons (fVar 4) (aCons (fVar 5) (aCons (fVar 6) (aCons (fVar 7) (aCons (fBin vAdd (fVar 8) (fC (.int 1))) (aCons (fVar 9) aNil)))))))) (aCons (fVar 12) aNil)))))))))))))))
noncomputable def g__law_act : Fn := gB b__law_act N__law_act 3
theorem gd__law_act (a0 a1 a2 : Val) (st : Store) : g__law_act [a0, a1, a2] st = fin3 st (b__law_act [some a0, some a1, some a2, none, none, none, none, none, none, none, none, none, none, none, none, none] st) := gB_eq rfl
theorem ss__law_act {P : Program} {w : World} {K : PySem.W.Frag} {mg : Str → Option Value} {base : Heap} (o__law_sent : OwnM P w K mg base 1 "_law_sent" g__law_sent) (o__law_put : OwnM P w K mg base 1 "_law_put" g__law_put) (z_int : mg "int" = none) (o__law_first_of : OwnM P w K mg base 1 "_law_first_of" g__law_first_of) :
  SSs ⟨P, w, K, mg, base, N__law_act, defScope s__law_act, fun _ => true, 1, sc__law_act.nd⟩ (defBody s__law_act) b__law_act :=
  (ssl_cons (ss_set (tg_many (tgs_cons (tg_one 3 (by rfl) (by first | exact Or.inl rfl | exact Or.inr rfl) (by rfl)) (tgs_cons (tg_one 4 (by rfl) (by first | exact Or.inl rfl | exact Or.inr rfl) (by rfl)) (tgs_cons (tg_one 5 (by rfl) (by first | exact Or.inl rfl | exact Or.inr rfl) (by rfl)) (tgs_cons (tg_one 6 (by rfl) (by first | exact Or.inl rfl | exact Or.inr rfl) (by rfl)) (tgs_cons (tg_one 7 (by rfl) (by first | exact Or.inl rfl | exact Or.inr rfl) (by rfl)) (tgs_cons (tg_one 8 (by rfl) (by first | exact Or.inl rfl | exact Or.inr rfl) (by rfl)) (tgs_cons (tg_one 9 (by rfl) (by first | exact Or.inl rfl | exact Or.inr rfl) (by rfl)) tgs_nil (fun _ => by rfl)) (fun _ => by rfl)) (fun _ => by rfl)) (fun _ => by rfl)) (fun _ => by rfl)) (fun _ => by rfl)) (fun _ => by rfl)) (fun _ => by rfl) (fun _ => by rfl)) (se_var 2 (by rfl) (by first | exact Or.inl rfl | exact Or.inr (Or.inl rfl) | exact Or.inr (Or.inr rfl)) (by rfl) (by rfl)) (fun _ _ => by rfl) (fun _ => by rfl) (fun _ => by rfl))
  (ssl_cons (ss_set (tg_one 10 (by rfl) (by first | exact Or.inl rfl | exact Or.inr rfl) (by rfl)) (se_ix xs_ix (se_var 0 (by rfl) (by first | exact Or.inl rfl | exact Or.inr (Or.inl rfl) | exact Or.inr (Or.inr rfl)) (by rfl) (by rfl)) (se_var 3 (by rfl) (by first | exact Or.inl rfl | exact Or.inr (Or.inl rfl) | exact Or.inr (Or.inr rfl)) (by rfl) (by rfl)) (fun _ _ => rfl)) (fun _ _ => by rfl) (fun _ => by rfl) (fun _ => by rfl))
  (ssl_cons (ss_set (tg_one 11 (by rfl) (by first | exact Or.inl rfl | exact Or.inr rfl) (by rfl)) (se_ix xs_ix (se_var 10 (by rfl) (by first | exact Or.inl rfl | exact Or.inr (Or.inl rfl) | exact Or.inr (Or.inr rfl)) (by rfl) (by rfl)) se_int (fun _ _ => rfl)) (fun _ _ => by rfl) (fun _ => by rfl) (fun _ => by rfl))
  (ssl_cons (ss_set (tg_one 12 (by rfl) (by first | exact Or.inl rfl | exact Or.inr rfl) (by rfl)) (se_call (OwnM.own o__law_sent (by rfl) (by rfl) (Nat.le_of_ble_eq_true (by rfl)) (by exact ⟨rfl, rfl, rfl, rfl, rfl⟩)) (sa_cons (se_var 10 (by rfl) (by first | exact Or.inl rfl | exact Or.inr (Or.inl rfl) | exact Or.inr (Or.inr rfl)) (by rfl) (by rfl)) (sa_cons (se_var 2 (by rfl) (by first | exact Or.inl rfl | exact Or.inr (Or.inl rfl) | exact Or.inr (Or.inr rfl)) (by rfl) (by rfl)) sa_nil (fun _ => by rfl)) (fun _ => by rfl)) (fun _ => by rfl) (fun _ => by rfl)) (fun _ _ => by rfl) (fun _ => by rfl) (fun _ => by rfl))
  (ssl_cons (ss_set (tg_one 3 (by rfl) (by first | exact Or.inl rfl | exact Or.inr rfl) (by rfl)) (se_op os_add (se_var 3 (by rfl) (by first | exact Or.inl rfl | exact Or.inr (Or.inl rfl) | exact Or.inr (Or.inr rfl)) (by rfl) (by rfl)) se_int) (fun _ _ => by rfl) (fun _ => by rfl) (fun _ => by rfl))
  (ssl_cons (ss_if (st_cmp os_eq (se_var 11 (by rfl) (by first | exact Or.inl rfl | exact Or.inr (Or.inl rfl) | exact Or.inr (Or.inr rfl)) (by rfl) (by rfl)) se_str (by rfl)) (ssl_one (ss_set (tg_one 4 (by rfl) (by first | exact Or.inl rfl | exact Or.inr rfl) (by rfl)) (se_call (OwnM.own o__law_put (by rfl) (by rfl) (Nat.le_of_ble_eq_true (by rfl)) (by exact ⟨rfl, rfl, rfl, rfl, rfl⟩)) (sa_cons (se_var 4 (by rfl) (by first | exact Or.inl rfl | exact Or.inr (Or.inl rfl) | exact Or.inr (Or.inr rfl)) (by rfl) (by rfl)) (sa_cons (se_ix xs_ix (se_var 10 (by rfl) (by first | exact Or.inl rfl | exact Or.inr (Or.inl rfl) | exact Or.inr (Or.inr rfl)) (by rfl) (by rfl)) se_int (fun _ _ => rfl)) (sa_cons (se_ix xs_ix (se_var 10 (by rfl) (by first | exact Or.inl rfl | exact Or.inr (Or.inl rfl) | exact Or.inr (Or.inr rfl)) (by rfl) (by rfl)) se_int (fun _ _ => rfl)) sa_nil (fun _ => by rfl)) (fun _ => by rfl)) (fun _ => by rfl)) (fun _ => by rfl) (fun _ => by rfl)) (fun _ _ => by rfl) (fun _ => by rfl) (fun _ => by rfl))) ssl_nil)
  (ssl_cons (ss_if (st_cmp os_eq (se_var 11 (by rfl) (by first | exact Or.inl rfl | exact Or.inr (Or.inl rfl) | exact Or.inr (Or.inr rfl)) (by rfl) (by rfl)) se_str (by rfl)) (ssl_cons (ss_set (tg_one 13 (by rfl) (by first | exact Or.inl rfl | exact Or.inr rfl) (by rfl)) (se_op os_add (se_ix xs_ix (se_var 4 (by rfl) (by first | exact Or.inl rfl | exact Or.inr (Or.inl rfl) | exact Or.inr (Or.inr rfl)) (by rfl) (by rfl)) (se_ix xs_ix (se_var 10 (by rfl) (by first | exact Or.inl rfl | exact Or.inr (Or.inl rfl) | exact Or.inr (Or.inr rfl)) (by rfl) (by rfl)) se_int (fun _ _ => rfl)) (fun _ _ => rfl)) (se_ix xs_ix (se_var 4 (by rfl) (by first | exact Or.inl rfl | exact Or.inr (Or.inl rfl) | exact Or.inr (Or.inr rfl)) (by rfl) (by rfl)) (se_ix xs_ix (se_var 10 (by rfl) (by first | exact Or.inl rfl | exact Or.inr (Or.inl rfl) | exact Or.inr (Or.inr rfl)) (by rfl) (by rfl)) se_int (fun _ _ => rfl)) (fun _ _ => rfl))) (fun _ _ => by rfl) (fun _ => by rfl) (fun _ => by rfl))
  (ssl_one (ss_set (tg_one 4 (by rfl) (by first | exact Or.inl rfl | exact Or.inr rfl) (by rfl)) (se_call (OwnM.own o__law_put (by rfl) (by rfl) (Nat.le_of_ble_eq_true (by rfl)) (by exact ⟨rfl, rfl, rfl, rfl, rfl⟩)) (sa_cons (se_var 4 (by rfl) (by first | exact Or.inl rfl | exact Or.inr (Or.inl rfl) | exact Or.inr (Or.inr rfl)) (by rfl) (by rfl)) (sa_cons (se_ix xs_ix (se_var 10 (by rfl) (by first | exact Or.inl rfl | exact Or.inr (Or.inl rfl) | exact Or.inr (Or.inr rfl)) (by rfl) (by rfl)) se_int (fun _ _ => rfl)) (sa_cons (se_op os_mod (se_type (by exact ⟨rfl, rfl, by decide, z_int, by first | rfl | decide +kernel⟩) cs_int (sa_cons (se_var 13 (by rfl) (by first | exact Or.inl rfl | exact Or.inr (Or.inl rfl) | exact Or.inr (Or.inr rfl)) (by rfl) (by rfl)) sa_nil (fun _ => by rfl)) (fun _ => by rfl) (fun _ => by rfl)) se_int) sa_nil (fun _ => by rfl)) (fun _ => by rfl)) (fun _ => by rfl)) (fun _ => by rfl) (fun _ => by rfl)) (fun _ _ => by rfl) (fun _ => by rfl) (fun _ => by rfl)))) ssl_nil)
  (ssl_cons (ss_if (SW.st (sw_and (st_cmp os_eq (se_var 11 (by rfl) (by first | exact Or.inl rfl | exact Or.inr (Or.inl rfl) | exact Or.inr (Or.inr rfl)) (by rfl) (by rfl)) se_str (by rfl)) (sw_and1 (st_cmp os_eq (se_ix xs_ix (se_var 4 (by rfl) (by first | exact Or.inl rfl | exact Or.inr (Or.inl rfl) | exact Or.inr (Or.inr rfl)) (by rfl) (by rfl)) (se_ix xs_ix (se_var 10 (by rfl) (by first | exact Or.inl rfl | exact Or.inr (Or.inl rfl) | exact Or.inr (Or.inr rfl)) (by rfl) (by rfl)) se_int (fun _ _ => rfl)) (fun _ _ => rfl)) se_int (by rfl))))) (ssl_one (ss_set (tg_one 3 (by rfl) (by first | exact Or.inl rfl | exact Or.inr rfl) (by rfl)) (se_ix xs_ix (se_var 10 (by rfl) (by first | exact Or.inl rfl | exact Or.inr (Or.inl rfl) | exact Or.inr (Or.inr rfl)) (by rfl) (by rfl)) se_int (fun _ _ => rfl)) (fun _ _ => by rfl) (fun _ => by rfl) (fun _ => by rfl))) ssl_nil)
  (ssl_cons (ss_if (st_cmp os_eq (se_var 11 (by rfl) (by first | exact Or.inl rfl | exact Or.inr (Or.inl rfl) | exact Or.inr (Or.inr rfl)) (by rfl) (by rfl)) se_str (by rfl)) (ssl_cons (ss_set (tg_one 5 (by rfl) (by first | exact Or.inl rfl | exact Or.inr rfl) (by rfl)) (se_call (OwnM.own o__law_put (by rfl) (by rfl) (Nat.le_of_ble_eq_true (by rfl)) (by exact ⟨rfl, rfl, rfl, rfl, rfl⟩)) (sa_cons (se_var 5 (by rfl) (by first | exact Or.inl rfl | exact Or.inr (Or.inl rfl) | exact Or.inr (Or.inr rfl)) (by rfl) (by rfl)) (sa_cons (se_ix xs_ix (se_var 10 (by rfl) (by first | exact Or.inl rfl | exact Or.inr (Or.inl rfl) | exact Or.inr (Or.inr rfl)) (by rfl) (by rfl)) se_int (fun _ _ => rfl)) (sa_cons (se_tup (sa_cons (se_var 1 (by rfl) (by first | exact Or.inl rfl | exact Or.inr (Or.inl rfl) | exact Or.inr (Or.inr rfl)) (by rfl) (by rfl)) (sa_cons (se_var 9 (by rfl) (by first | exact Or.inl rfl | exact Or.inr (Or.inl rfl) | exact Or.inr (Or.inr rfl)) (by rfl) (by rfl)) sa_nil (fun _ => by rfl)) (fun _ => by rfl))) sa_nil (fun _ => by rfl)) (fun _ => by rfl)) (fun _ => by rfl)) (fun _ => by rfl) (fun _ => by rfl)) (fun _ _ => by rfl) (fun _ => by rfl) (fun _ => by rfl))
  (ssl_one (ss_set (tg_one 9 (by rfl) (by first | exact Or.inl rfl | exact Or.inr rfl) (by rfl)) (se_op os_add (se_var 9 (by rfl) (by first | exact Or.inl rfl | exact Or.inr (Or.inl rfl) | exact Or.inr (Or.inr rfl)) (by rfl) (by rfl)) se_int) (fun _ _ => by rfl) (fun _ => by rfl) (fun _ => by rfl)))) ssl_nil)
  (ssl_cons (ss_if (st_cmp os_eq (se_var 11 (by rfl) (by first | exact Or.inl rfl | exact Or.inr (Or.inl rfl) | exact Or.inr (Or.inr rfl)) (by rfl) (by rfl)) se_str (by rfl)) (ssl_one (ss_set (tg_one 5 (by rfl) (by first | exact Or.inl rfl | exact Or.inr rfl) (by rfl)) (se_call (OwnM.own o__law_put (by rfl) (by rfl) (Nat.le_of_ble_eq_true (by rfl)) (by exact ⟨rfl, rfl, rfl, rfl, rfl⟩)) (sa_cons (se_var 5 (by rfl) (by first | exact Or.inl rfl | exact Or.inr (Or.inl rfl) | exact Or.inr (Or.inr rfl)) (by rfl) (by rfl)) (sa_cons (se_ix xs_ix (se_var 10 (by rfl) (by first | exact Or.inl rfl | exact Or.inr (Or.inl rfl) | exact Or.inr (Or.inr rfl)) (by rfl) (by rfl)) se_int (fun _ _ => rfl)) (sa_cons se_non sa_nil (fun _ => by rfl)) (fun _ => by rfl)) (fun _ => by rfl)) (fun _ => by rfl) (fun _ => by rfl)) (fun _ _ => by rfl) (fun _ => by rfl) (fun _ => by rfl))) ssl_nil)
  (ssl_cons (ss_if (SW.st (sw_or (st_cmp os_eq (se_var 11 (by rfl) (by first | exact Or.inl rfl | exact Or.inr (Or.inl rfl) | exact Or.inr (Or.inr rfl)) (by rfl) (by rfl)) se_str (by rfl)) (sw_or1 (st_cmp os_eq (se_var 11 (by rfl) (by first | exact Or.inl rfl | exact Or.inr (Or.inl rfl) | exact Or.inr (Or.inr rfl)) (by rfl) (by rfl)) se_str (by rfl))))) (ssl_cons (ss_set (tg_one 14 (by rfl) (by first | exact Or.inl rfl | exact Or.inr rfl) (by rfl)) (se_call (OwnM.own o__law_first_of (by rfl) (by rfl) (Nat.le_of_ble_eq_true (by rfl)) (by exact ⟨rfl, rfl, rfl, rfl, rfl⟩)) (sa_cons (se_var 7 (by rfl) (by first | exact Or.inl rfl | exact Or.inr (Or.inl rfl) | exact Or.inr (Or.inr rfl)) (by rfl) (by rfl)) (sa_cons (se_ix xs_ix (se_var 10 (by rfl) (by first | exact Or.inl rfl | exact Or.inr (Or.inl rfl) | exact Or.inr (Or.inr rfl)) (by rfl) (by rfl)) se_int (fun _ _ => rfl)) sa_nil (fun _ => by rfl)) (fun _ => by rfl)) (fun _ => by rfl) (fun _ => by rfl)) (fun _ _ => by rfl) (fun _ => by rfl) (fun _ => by rfl))
  (ssl_cons (ss_set (tg_many (tgs_cons (tg_one 6 (by rfl) (by first | exact Or.inl rfl | exact Or.inr rfl) (by rfl)) (tgs_cons (tg_one 15 (by rfl) (by first | exact Or.inl rfl | exact Or.inr rfl) (by rfl)) tgs_nil (fun _ => by rfl)) (fun _ => by rfl)) (fun _ => by rfl) (fun _ => by rfl)) (se_ix xs_ix (se_var 7 (by rfl) (by first | exact Or.inl rfl | exact Or.inr (Or.inl rfl) | exact Or.inr (Or.inr rfl)) (by rfl) (by rfl)) (se_var 14 (by rfl) (by first | exact Or.inl rfl | exact Or.inr (Or.inl rfl) | exact Or.inr (Or.inr rfl)) (by rfl) (by rfl)) (fun _ _ => rfl)) (fun _ _ => by rfl) (fun _ => by rfl) (fun _ => by rfl))
  (ssl_cons (ss_set (tg_one 7 (by rfl) (by first | exact Or.inl rfl | exact Or.inr rfl) (by rfl)) (se_op os_add (se_slice ls_sl (se_var 7 (by rfl) (by first | exact Or.inl rfl | exact Or.inr (Or.inl rfl) | exact Or.inr (Or.inr rfl)) (by rfl) (by rfl)) so_none (so_some (se_var 14 (by rfl) (by first | exact Or.inl rfl | exact Or.inr (Or.inl rfl) | exact Or.inr (Or.inr rfl)) (by rfl) (by rfl)))) (se_slice ls_sl (se_var 7 (by rfl) (by first | exact Or.inl rfl | exact Or.inr (Or.inl rfl) | exact Or.inr (Or.inr rfl)) (by rfl) (by rfl)) (so_some (se_op os_add (se_var 14 (by rfl) (by first | exact Or.inl rfl | exact Or.inr (Or.inl rfl) | exact Or.inr (Or.inr rfl)) (by rfl) (by rfl)) se_int)) so_none)) (fun _ _ => by rfl) (fun _ => by rfl) (fun _ => by rfl))
  (ssl_one (ss_if (st_cmp os_eq (se_var 11 (by rfl) (by first | exact Or.inl rfl | exact Or.inr (Or.inl rfl) | exact Or.inr (Or.inr rfl)) (by rfl) (by rfl)) se_str (by rfl)) (ssl_one (ss_set (tg_one 4 (by rfl) (by first | exact Or.inl rfl | exact Or.inr rfl) (by rfl)) (se_call (OwnM.own o__law_put (by rfl) (by rfl) (Nat.le_of_ble_eq_true (by rfl)) (by exact ⟨rfl, rfl, rfl, rfl, rfl⟩)) (sa_cons (se_var 4 (by rfl) (by first | exact Or.inl rfl | exact Or.inr (Or.inl rfl) | exact Or.inr (Or.inr rfl)) (by rfl) (by rfl)) (sa_cons (se_ix xs_ix (se_var 10 (by rfl) (by first | exact Or.inl rfl | exact Or.inr (Or.inl rfl) | exact Or.inr (Or.inr rfl)) (by rfl) (by rfl)) se_int (fun _ _ => rfl)) (sa_cons (se_ix xs_ix (se_lst (sa_cons se_int (sa_cons (se_ix xs_ix (se_var 15 (by rfl) (by first | exact Or.inl rfl | exact Or.inr (Or.inl rfl) | exact Or.inr (Or.inr rfl)) (by rfl) (by rfl)) se_int (fun _ _ => rfl)) sa_nil (fun _ => by rfl)) (fun _ => by rfl))) (se_type (by exact ⟨rfl, rfl, by decide, z_int, by first | rfl | decide +kernel⟩) cs_int (sa_cons (se_cmp os_eq (se_ix xs_ix (se_var 15 (by rfl) (by first | exact Or.inl rfl | exact Or.inr (Or.inl rfl) | exact Or.inr (Or.inr rfl)) (by rfl) (by rfl)) se_int (fun _ _ => rfl)) se_str (by rfl)) sa_nil (fun _ => by rfl)) (fun _ => by rfl) (fun _ => by rfl)) (fun _ _ => rfl)) sa_nil (fun _ => by rfl)) (fun _ => by rfl)) (fun _ => by rfl)) (fun _ => by rfl) (fun _ => by rfl)) (fun _ _ => by rfl) (fun _ => by rfl) (fun _ => by rfl))) (ssl_one (ss_set (tg_one 5 (by rfl) (by first | exact Or.inl rfl | exact Or.inr rfl) (by rfl)) (se_call (OwnM.own o__law_put (by rfl) (by rfl) (Nat.le_of_ble_eq_true (by rfl)) (by exact ⟨rfl, rfl, rfl, rfl, rfl⟩)) (sa_cons (se_var 5 (by rfl) (by first | exact Or.inl rfl | exact Or.inr (Or.inl rfl) | exact Or.inr (Or.inr rfl)) (by rfl) (by rfl)) (sa_cons (se_ix xs_ix (se_var 10 (by rfl) (by first | exact Or.inl rfl | exact Or.inr (Or.inl rfl) | exact Or.inr (Or.inr rfl)) (by rfl) (by rfl)) se_int (fun _ _ => rfl)) (sa_cons (se_ix xs_ix (se_lst (sa_cons se_non (sa_cons (se_slice ls_sl (se_var 15 (by rfl) (by first | exact Or.inl rfl | exact Or.inr (Or.inl rfl) | exact Or.inr (Or.inr rfl)) (by rfl) (by rfl)) (so_some se_int) so_none) sa_nil (fun _ => by rfl)) (fun _ => by rfl))) (se_type (by exact ⟨rfl, rfl, by decide, z_int, by first | rfl | decide +kernel⟩) cs_int (sa_cons (se_cmp os_eq (se_ix xs_ix (se_var 15 (by rfl) (by first | exact Or.inl rfl | exact Or.inr (Or.inl rfl) | exact Or.inr (Or.inr rfl)) (by rfl) (by rfl)) se_int (fun _ _ => rfl)) se_str (by rfl)) sa_nil (fun _ => by rfl)) (fun _ => by rfl) (fun _ => by rfl)) (fun _ _ => rfl)) sa_nil (fun _ => by rfl)) (fun _ => by rfl)) (fun _ => by rfl)) (fun _ => by rfl) (fun _ => by rfl)) (fun _ _ => by rfl) (fun _ => by rfl) (fun _ => by rfl)))))))) ssl_nil)
  (ssl_one (ss_ret (se_lst (sa_cons (se_tup (sa_cons (se_var 3 (by rfl) (by first | exact Or.inl rfl | exact Or.inr (Or.inl rfl) | exact Or.inr (Or.inr rfl)) (by rfl) (by rfl)) (sa_cons (se_var 4 (by rfl) (by first | exact Or.inl rfl | exact Or.inr (Or.inl rfl) | exact Or.inr (Or.inr rfl)) (by rfl) (by rfl)) (sa_cons (se_var 5 (by rfl) (by first | exact Or.inl rfl | exact Or.inr (Or.inl rfl) | exact Or.inr (Or.inr rfl)) (by rfl) (by rfl)) (sa_cons (se_var 6 (by rfl) (by first | exact Or.inl rfl | exact Or.inr (Or.inl rfl) | exact Or.inr (Or.inr rfl)) (by rfl) (by rfl)) (sa_cons (se_var 7 (by rfl) (by first | exact Or.inl rfl | exact Or.inr (Or.inl rfl) | exact Or.inr (Or.inr rfl)) (by rfl) (by rfl)) (sa_cons (se_op os_add (se_var 8 (by rfl) (by first | exact Or.inl rfl | exact Or.inr (Or.inl rfl) | exact Or.inr (Or.inr rfl)) (by rfl) (by rfl)) se_int) (sa_cons (se_var 9 (by rfl) (by first | exact Or.inl rfl | exact Or.inr (Or.inl rfl) | exact Or.inr (Or.inr rfl)) (by rfl) (by rfl)) sa_nil (fun _ => by rfl)) (fun _ => by rfl)) (fun _ => by rfl)) (fun _ => by rfl)) (fun _ => by rfl)) (fun _ => by rfl)) (fun _ => by rfl))) (sa_cons (se_var 12 (by rfl) (by first | exact Or.inl rfl | exact Or.inr (Or.inl rfl) | exact Or.inr (Or.inr rfl)) (by rfl) (by rfl)) sa_nil (fun _ => by rfl)) (fun _ => by rfl))))))))))))))))
theorem own__law_act {P : Program} {w : World} {K : PySem.W.Frag} {mg : Str → Option Value} {base : Heap} {fa : Addr} {fd : FuncData} (F : Fun K "_law_act" "_law_act" s__law_act fa fd) (hm : mg "_law_act" = some (.ref fa)) (o__law_sent : OwnM P w K mg base 1 "_law_sent" g__law_sent) (o__law_put : OwnM P w K mg base 1 "_law_put" g__law_put) (z_int : mg "int" = none) (o__law_first_of : OwnM P w K mg base 1 "_law_first_of" g__law_first_of) : OwnM P w K mg base 2 "_law_act" g__law_act :=
  ownM F hm (F.binds (ps := ["code", "number", "state"]) fun _ _ _ _ _ _ us hl => match us, hl with | [_, _, _], _ => rfl) sc__law_act (ss__law_act o__law_sent o__law_put z_int o__law_first_of) (fun _ _ _ h => gB_len _ _ _ h) (fun _ _ _ _ h => gB_gives _ _ _ _ h)
abbrev N_sent_by : List Str := ["instruction", "state"]
theorem sc_sent_by : FnScope N_sent_by ["instruction", "state"] (defScope s_sent_by) := ⟨rfl, rfl, rfl, by decide +kernel, rfl, by decide +kernel, by decide +kernel⟩
noncomputable def b_sent_by : Es :=
  (xSeq (xIf (tV (fBin vEq (fIx vIx (fVar 0) (fC (.int 0))) (fC (.str (PySem.Str.ofString "send"))))) (xRet (fLst (aCons (fTup (aCons (fIx vIx (fVar 0) (fC (.int 1))) (aCons (fTup (aCons (fC (.str (PySem.Str.ofString "number"))) (aCons (fIx vIx (fIx vIx (fVar 1) (fC (.int 1))) (fIx vIx (fVar 0) (fC (.int 2)))) aNil))) aNil))) aNil))) xNil)
  (xSeq (xIf (tAnd2 (tV (fBin vEq (fIx vIx (fVar 0) (fC (.int 0))) (fC (.str (PySem.Str.ofString "answer"))))) (tV (fBin vIsnt (fIx vIx (fVar 1) (fC (.int 3))) (fC .non)))) (xRet (fLst (aCons (fTup (aCons (fIx vIx (fVar 1) (fC (.int 3))) (aCons (fTup (aCons (fC (.str (PySem.Str.ofString "number"))) (aCons (fIx vIx (fIx vIx (fVar 1) (fC (.int 1))) (fIx vIx (fVar 0) (fC (.int 1)))) aNil))) aNil))) aNil))) xNil)
  (xSeq (xIf (tAnd2 (tV (fBin vEq (fIx vIx (fVar 0) (fC (.int 0))) (fC (.str (PySem.Str.ofString "give"))))) (tV (fBin vIsnt (fIx vIx (fIx vIx (fVar 1) (fC (.int 2))) (fIx vIx (fVar 0) (fC (.int 2)))) (fC .non)))) (xRet (fLst (aCons (fTup (aCons (fIx vIx (fVar 0) (fC (.int 1))) (aCons (fBin vAdd (fTup (aCons (fC (.str (PySem.Str.ofString "object"))) aNil)) (fIx vIx (fIx vIx (fVar 1) (fC (.int 2))) (fIx vIx (fVar 0) (fC (.int 2))))) aNil))) aNil))) xNil)
  (xRet (fLst aNil)))))
noncomputable def g_sent_by : Fn := gB b_sent_by N_sent_by 2
theorem gd_sent_by (a0 a1 : Val) (st : Store) : g_sent_by [a0, a1] st = fin3 st (b_sent_by [some a0, some a1] st) := gB_eq rfl
theorem ss_sent_by {P : Program} {w : World} {K : PySem.W.Frag} {mg : Str → Option Value} {base : Heap}  :
  SSs ⟨P, w, K, mg, base, N_sent_by, defScope s_sent_by, fun _ => true, 0, sc_sent_by.nd⟩ (defBody s_sent_by) b_sent_by :=
  (ssl_cons (ss_if (st_cmp os_eq (se_ix xs_ix (se_var 0 (by rfl) (by first | exact Or.inl rfl | exact Or.inr (Or.inl rfl) | exact Or.inr (Or.inr rfl)) (by rfl) (by rfl)) se_int (fun _ _ => rfl)) se_str (by rfl)) (ssl_one (ss_ret (se_lst (sa_cons (se_tup (sa_cons (se_ix xs_ix (se_var 0 (by rfl) (by first | exact Or.inl rfl | exact Or.inr (Or.inl rfl) | exact Or.inr (Or.inr rfl)) (by rfl) (by rfl)) se_int (fun _ _ => rfl)) (sa_cons (se_tup (sa_cons se_str (sa_cons (se_ix xs_ix (se_ix xs_ix (se_var 1 (by rfl) (by first | exact Or.inl rfl | exact Or.inr (Or.inl rfl) | exact Or.inr (Or.inr rfl)) (by rfl) (by rfl)) se_int (fun _ _ => rfl)) (se_ix xs_ix (se_var 0 (by rfl) (by first | exact Or.inl rfl | exact Or.inr (Or.inl rfl) | exact Or.inr (Or.inr rfl)) (by rfl) (by rfl)) se_int (fun _ _ => rfl)) (fun _ _ => rfl)) sa_nil (fun _ => by rfl)) (fun _ => by rfl))) sa_nil (fun _ => by rfl)) (fun _ => by rfl))) sa_nil (fun _ => by rfl))))) ssl_nil)
  (ssl_cons (ss_if (SW.st (sw_and (st_cmp os_eq (se_ix xs_ix (se_var 0 (by rfl) (by first | exact Or.inl rfl | exact Or.inr (Or.inl rfl) | exact Or.inr (Or.inr rfl)) (by rfl) (by rfl)) se_int (fun _ _ => rfl)) se_str (by rfl)) (sw_and1 (st_cmp os_isnt (se_ix xs_ix (se_var 1 (by rfl) (by first | exact Or.inl rfl | exact Or.inr (Or.inl rfl) | exact Or.inr (Or.inr rfl)) (by rfl) (by rfl)) se_int (fun _ _ => rfl)) se_non (by rfl))))) (ssl_one (ss_ret (se_lst (sa_cons (se_tup (sa_cons (se_ix xs_ix (se_var 1 (by rfl) (by first | exact Or.inl rfl | exact Or.inr (Or.inl rfl) | exact Or.inr (Or.inr rfl)) (by rfl) (by rfl)) se_int (fun _ _ => rfl)) (sa_cons (se_tup (sa_cons se_str (sa_cons (se_ix xs_ix (se_ix xs_ix (se_var 1 (by rfl) (by first | exact Or.inl rfl | exact Or.inr (Or.inl rfl) | exact Or.inr (Or.inr rfl)) (by rfl) (by rfl)) se_int (fun _ _ => rfl)) (se_ix xs_ix (se_var 0 (by rfl) (by first | exact Or.inl rfl | exact Or.inr (Or.inl rfl) | exact Or.inr (Or.inr rfl)) (by rfl) (by rfl)) se_int (fun _ _ => rfl)) (fun _ _ => rfl)) sa_nil (fun _ => by rfl)) (fun _ => by rfl))) sa_nil (fun _ => by rfl)) (fun _ => by rfl))) sa_nil (fun _ => by rfl))))) ssl_nil)
  (ssl_cons (ss_if (SW.st (sw_and (st_cmp os_eq (se_ix xs_ix (se_var 0 (by rfl) (by first | exact Or.inl rfl | exact Or.inr (Or.inl rfl) | exact Or.inr (Or.inr rfl)) (by rfl) (by rfl)) se_int (fun _ _ => rfl)) se_str (by rfl)) (sw_and1 (st_cmp os_isnt (se_ix xs_ix (se_ix xs_ix (se_var 1 (by rfl) (by first | exact Or.inl rfl | exact Or.inr (Or.inl rfl) | exact Or.inr (Or.inr rfl)) (by rfl) (by rfl)) se_int (fun _ _ => rfl)) (se_ix xs_ix (se_var 0 (by rfl) (by first | exact Or.inl rfl | exact Or.inr (Or.inl rfl) | exact Or.inr (Or.inr rfl)) (by rfl) (by rfl)) se_int (fun _ _ => rfl)) (fun _ _ => rfl)) se_non (by rfl))))) (ssl_one (ss_ret (se_lst (sa_cons (se_tup (sa_cons (se_ix xs_ix (se_var 0 (by rfl) (by first | exact Or.inl rfl | exact Or.inr (Or.inl rfl) | exact Or.inr (Or.inr rfl)) (by rfl) (by rfl)) se_int (fun _ _ => rfl)) (sa_cons (se_op os_add (se_tup (sa_cons se_str sa_nil (fun _ => by rfl))) (se_ix xs_ix (se_ix xs_ix (se_var 1 (by rfl) (by first | exact Or.inl rfl | exact Or.inr (Or.inl rfl) | exact Or.inr (Or.inr rfl)) (by rfl) (by rfl)) se_int (fun _ _ => rfl)) (se_ix xs_ix (se_var 0 (by rfl) (by first | exact Or.inl rfl | exact Or.inr (Or.inl rfl) | exact Or.inr (Or.inr rfl)) (by rfl) (by rfl)) se_int (fun _ _ => rfl)) (fun _ _ => rfl))) sa_nil (fun _ => by rfl)) (fun _ => by rfl))) sa_nil (fun _ => by rfl))))) ssl_nil)
  (ssl_one (ss_ret (se_lst sa_nil))))))
theorem own_sent_by {P : Program} {w : World} {K : PySem.W.Frag} {mg : Str → Option Value} {base : Heap} {fa : Addr} {fd : FuncData} (F : Fun K "sent_by" "sent_by" s_sent_by fa fd) (hm : mg "sent_by" = some (.ref fa))  : OwnM P w K mg base 1 "sent_by" g_sent_by :=
  ownM F hm (F.binds (ps := ["instruction", "state"]) fun _ _ _ _ _ _ us hl => match us, hl with | [_, _], _ => rfl) sc_sent_by (ss_sent_by ) (fun _ _ _ h => gB_len _ _ _ h) (fun _ _ _ _ h => gB_gives _ _ _ _ h)
abbrev N_put : List Str := ["items", "place", "one"]
theorem sc_put : FnScope N_put ["items", "place", "one"] (defScope s_put) := ⟨rfl, rfl, rfl, by decide +kernel, rfl, by decide +kernel, by decide +kernel⟩
noncomputable def b_put : Es :=
  (xRet (fBin vAdd (fBin vAdd (fSl vSl (fVar 0) oNone (oSome (fVar 1))) (fTup (aCons (fVar 2) aNil))) (fSl vSl (fVar 0) (oSome (fBin vAdd (fVar 1) (fC (.int 1)))) oNone)))
noncomputable def g_put : Fn := gB b_put N_put 3
theorem gd_put (a0 a1 a2 : Val) (st : Store) : g_put [a0, a1, a2] st = fin3 st (b_put [some a0, some a1, some a2] st) := gB_eq rfl
theorem ss_put {P : Program} {w : World} {K : PySem.W.Frag} {mg : Str → Option Value} {base : Heap}  :
  SSs ⟨P, w, K, mg, base, N_put, defScope s_put, fun _ => true, 0, sc_put.nd⟩ (defBody s_put) b_put :=
  (ssl_one (ss_ret (se_op os_add (se_op os_add (se_slice ls_sl (se_var 0 (by rfl) (by first | exact Or.inl rfl | exact Or.inr (Or.inl rfl) | exact Or.inr (Or.inr rfl)) (by rfl) (by rfl)) so_none (so_some (se_var 1 (by rfl) (by first | exact Or.inl rfl | exact Or.inr (Or.inl rfl) | exact Or.inr (Or.inr rfl)) (by rfl) (by rfl)))) (se_tup (sa_cons (se_var 2 (by rfl) (by first | exact Or.inl rfl | exact Or.inr (Or.inl rfl) | exact Or.inr (Or.inr rfl)) (by rfl) (by rfl)) sa_nil (fun _ => by rfl)))) (se_slice ls_sl (se_var 0 (by rfl) (by first | exact Or.inl rfl | exact Or.inr (Or.inl rfl) | exact Or.inr (Or.inr rfl)) (by rfl) (by rfl)) (so_some (se_op os_add (se_var 1 (by rfl) (by first | exact Or.inl rfl | exact Or.inr (Or.inl rfl) | exact Or.inr (Or.inr rfl)) (by rfl) (by rfl)) se_int)) so_none))))
theorem own_put {P : Program} {w : World} {K : PySem.W.Frag} {mg : Str → Option Value} {base : Heap} {fa : Addr} {fd : FuncData} (F : Fun K "put" "put" s_put fa fd) (hm : mg "put" = some (.ref fa))  : OwnM P w K mg base 1 "put" g_put :=
  ownM F hm (F.binds (ps := ["items", "place", "one"]) fun _ _ _ _ _ _ us hl => match us, hl with | [_, _, _], _ => rfl) sc_put (ss_put ) (fun _ _ _ h => gB_len _ _ _ h) (fun _ _ _ _ h => gB_gives _ _ _ _ h)
abbrev N_act_on_registers : List Str := ["instruction", "state", "registers", "place"]
theorem sc_act_on_registers : FnScope N_act_on_registers ["instruction", "state"] (defScope s_act_on_registers) := ⟨rfl, rfl, rfl, by decide +kernel, rfl, by decide +kernel, by decide +kernel⟩
noncomputable def b_act_on_registers : Es :=
  (xSeq (xSet (.one 2) (fIx vIx (fVar 1) (fC (.int 1))))
  (xSeq (xSet (.one 3) (fIx vIx (fVar 0) (fC (.int 1))))
  (xSeq (xIf (tV (fBin vEq (fIx vIx (fVar 0) (fC (.int 0))) (fC (.str (PySem.Str.ofString "set"))))) (xRet (fTup (aCons (fCall g_put (aCons (fVar 2) (aCons (fVar 3) (aCons (fIx vIx (fVar 0) (fC (.int 2))) aNil)))) (aCons (fBin vAdd (fIx vIx (fVar 1) (fC (.int 0))) (fC (.int 1))) aNil)))) xNil)
  (xSeq (xIf (tV (fBin vEq (fIx vIx (fVar 0) (fC (.int 0))) (fC (.str (PySem.Str.ofString "add"))))) (xRet (fTup (aCons (fCall g_put (aCons (fVar 2) (aCons (fVar 3) (aCons (fBin vMod (fBin vAdd (fIx vIx (fVar 2) (fVar 3)) (fIx vIx (fVar 2) (fIx vIx (fVar 0) (fC (.int 2))))) (fC (.int 1000))) aNil)))) (aCons (fBin vAdd (fIx vIx (fVar 1) (fC (.int 0))) (fC (.int 1))) aNil)))) xNil)
  (xSeq (xIf (tV (fBin vEq (fIx vIx (fVar 2) (fVar 3)) (fC (.int 0)))) (xRet (fTup (aCons (fVar 2) (aCons (fIx vIx (fVar 0) (fC (.int 2))) aNil)))) xNil)
  (xRet (fTup (aCons (fVar 2) (aCons (fBin vAdd (fIx vIx (fVar 1) (fC (.int 0))) (fC (.int 1))) aNil)))))))))
noncomputable def g_act_on_registers : Fn := gB b_act_on_registers N_act_on_registers 2
theorem gd_act_on_registers (a0 a1 : Val) (st : Store) : g_act_on_registers [a0, a1] st = fin3 st (b_act_on_registers [some a0, some a1, none, none] st) := gB_eq rfl
theorem ss_act_on_registers {P : Program} {w : World} {K : PySem.W.Frag} {mg : Str → Option Value} {base : Heap} (o_put : OwnM P w K mg base 1 "put" g_put) (c_MODULUS : ∃ t, mg "MODULUS" = some (.int 1000 t)) :
  SSs ⟨P, w, K, mg, base, N_act_on_registers, defScope s_act_on_registers, fun _ => true, 1, sc_act_on_registers.nd⟩ (defBody s_act_on_registers) b_act_on_registers :=
  (ssl_cons (ss_set (tg_one 2 (by rfl) (by first | exact Or.inl rfl | exact Or.inr rfl) (by rfl)) (se_ix xs_ix (se_var 1 (by rfl) (by first | exact Or.inl rfl | exact Or.inr (Or.inl rfl) | exact Or.inr (Or.inr rfl)) (by rfl) (by rfl)) se_int (fun _ _ => rfl)) (fun _ _ => by rfl) (fun _ => by rfl) (fun _ => by rfl))
  (ssl_cons (ss_set (tg_one 3 (by rfl) (by first | exact Or.inl rfl | exact Or.inr rfl) (by rfl)) (se_ix xs_ix (se_var 0 (by rfl) (by first | exact Or.inl rfl | exact Or.inr (Or.inl rfl) | exact Or.inr (Or.inr rfl)) (by rfl) (by rfl)) se_int (fun _ _ => rfl)) (fun _ _ => by rfl) (fun _ => by rfl) (fun _ => by rfl))
  (ssl_cons (ss_if (st_cmp os_eq (se_ix xs_ix (se_var 0 (by rfl) (by first | exact Or.inl rfl | exact Or.inr (Or.inl rfl) | exact Or.inr (Or.inr rfl)) (by rfl) (by rfl)) se_int (fun _ _ => rfl)) se_str (by rfl)) (ssl_one (ss_ret (se_tup (sa_cons (se_call (OwnM.own o_put (by rfl) (by rfl) (Nat.le_of_ble_eq_true (by rfl)) (by exact ⟨rfl, rfl, rfl, rfl, rfl⟩)) (sa_cons (se_var 2 (by rfl) (by first | exact Or.inl rfl | exact Or.inr (Or.inl rfl) | exact Or.inr (Or.inr rfl)) (by rfl) (by rfl)) (sa_cons (se_var 3 (by rfl) (by first | exact Or.inl rfl | exact Or.inr (Or.inl rfl) | exact Or.inr (Or.inr rfl)) (by rfl) (by rfl)) (sa_cons (se_ix xs_ix (se_var 0 (by rfl) (by first | exact Or.inl rfl | exact Or.inr (Or.inl rfl) | exact Or.inr (Or.inr rfl)) (by rfl) (by rfl)) se_int (fun _ _ => rfl)) sa_nil (fun _ => by rfl)) (fun _ => by rfl)) (fun _ => by rfl)) (fun _ => by rfl) (fun _ => by rfl)) (sa_cons (se_op os_add (se_ix xs_ix (se_var 1 (by rfl) (by first | exact Or.inl rfl | exact Or.inr (Or.inl rfl) | exact Or.inr (Or.inr rfl)) (by rfl) (by rfl)) se_int (fun _ _ => rfl)) se_int) sa_nil (fun _ => by rfl)) (fun _ => by rfl))))) ssl_nil)
  (ssl_cons (ss_if (st_cmp os_eq (se_ix xs_ix (se_var 0 (by rfl) (by first | exact Or.inl rfl | exact Or.inr (Or.inl rfl) | exact Or.inr (Or.inr rfl)) (by rfl) (by rfl)) se_int (fun _ _ => rfl)) se_str (by rfl)) (ssl_one (ss_ret (se_tup (sa_cons (se_call (OwnM.own o_put (by rfl) (by rfl) (Nat.le_of_ble_eq_true (by rfl)) (by exact ⟨rfl, rfl, rfl, rfl, rfl⟩)) (sa_cons (se_var 2 (by rfl) (by first | exact Or.inl rfl | exact Or.inr (Or.inl rfl) | exact Or.inr (Or.inr rfl)) (by rfl) (by rfl)) (sa_cons (se_var 3 (by rfl) (by first | exact Or.inl rfl | exact Or.inr (Or.inl rfl) | exact Or.inr (Or.inr rfl)) (by rfl) (by rfl)) (sa_cons (se_op os_mod (se_op os_add (se_ix xs_ix (se_var 2 (by rfl) (by first | exact Or.inl rfl | exact Or.inr (Or.inl rfl) | exact Or.inr (Or.inr rfl)) (by rfl) (by rfl)) (se_var 3 (by rfl) (by first | exact Or.inl rfl | exact Or.inr (Or.inl rfl) | exact Or.inr (Or.inr rfl)) (by rfl) (by rfl)) (fun _ _ => rfl)) (se_ix xs_ix (se_var 2 (by rfl) (by first | exact Or.inl rfl | exact Or.inr (Or.inl rfl) | exact Or.inr (Or.inr rfl)) (by rfl) (by rfl)) (se_ix xs_ix (se_var 0 (by rfl) (by first | exact Or.inl rfl | exact Or.inr (Or.inl rfl) | exact Or.inr (Or.inr rfl)) (by rfl) (by rfl)) se_int (fun _ _ => rfl)) (fun _ _ => rfl))) (se_glob (v := .int 1000) (u := .int 1000) (z := .int 1000 c_MODULUS.choose) (by rfl) (by exact c_MODULUS.choose_spec) ⟨_, rfl⟩ (fun _ _ => .int _) (by rfl))) sa_nil (fun _ => by rfl)) (fun _ => by rfl)) (fun _ => by rfl)) (fun _ => by rfl) (fun _ => by rfl)) (sa_cons (se_op os_add (se_ix xs_ix (se_var 1 (by rfl) (by first | exact Or.inl rfl | exact Or.inr (Or.inl rfl) | exact Or.inr (Or.inr rfl)) (by rfl) (by rfl)) se_int (fun _ _ => rfl)) se_int) sa_nil (fun _ => by rfl)) (fun _ => by rfl))))) ssl_nil)
  (ssl_cons (ss_if (st_cmp os_eq (se_ix xs_ix (se_var 2 (by rfl) (by first | exact Or.inl rfl | exact Or.inr (Or.inl rfl) | exact Or.inr (Or.inr rfl)) (by rfl) (by rfl)) (se_var 3 (by rfl) (by first | exact Or.inl rfl | exact Or.inr (Or.inl rfl) | exact Or.inr (Or.inr rfl)) (by rfl) (by rfl)) (fun _ _ => rfl)) se_int (by rfl)) (ssl_one (ss_ret (se_tup (sa_cons (se_var 2 (by rfl) (by first | exact Or.inl rfl | exact Or.inr (Or.inl rfl) | exact Or.inr (Or.inr rfl)) (by rfl) (by rfl)) (sa_cons (se_ix xs_ix (se_var 0 (by rfl) (by first | exact Or.inl rfl | exact Or.inr (Or.inl rfl) | exact Or.inr (Or.inr rfl)) (by rfl) (by rfl)) se_int (fun _ _ => rfl)) sa_nil (fun _ => by rfl)) (fun _ => by rfl))))) ssl_nil)
  (ssl_one (ss_ret (se_tup (sa_cons (se_var 2 (by rfl) (by first | exact Or.inl rfl | exact Or.inr (Or.inl rfl) | exact Or.inr (Or.inr rfl)) (by rfl) (by rfl)) (sa_cons (se_op os_add (se_ix xs_ix (se_var 1 (by rfl) (by first | exact Or.inl rfl | exact Or.inr (Or.inl rfl) | exact Or.inr (Or.inr rfl)) (by rfl) (by rfl)) se_int (fun _ _ => rfl)) se_int) sa_nil (fun _ => by rfl)) (fun _ => by rfl))))))))))
theorem own_act_on_registers {P : Program} {w : World} {K : PySem.W.Frag} {mg : Str → Option Value} {base : Heap} {fa : Addr} {fd : FuncData} (F : Fun K "act_on_registers" "act_on_registers" s_act_on_registers fa fd) (hm : mg "act_on_registers" = some (.ref fa)) (o_put : OwnM P w K mg base 1 "put" g_put) (c_MODULUS : ∃ t, mg "MODULUS" = some (.int 1000 t)) : OwnM P w K mg base 2 "act_on_registers" g_act_on_registers :=
  ownM F hm (F.binds (ps := ["instruction", "state"]) fun _ _ _ _ _ _ us hl => match us, hl with | [_, _], _ => rfl) sc_act_on_registers (ss_act_on_registers o_put c_MODULUS) (fun _ _ _ h => gB_len _ _ _ h) (fun _ _ _ _ h => gB_gives _ _ _ _ h)
abbrev N_act_on_slots : List Str := ["instruction", "number", "state", "place"]
theorem sc_act_on_slots : FnScope N_act_on_slots ["instruction", "number", "state"] (defScope s_act_on_slots) := ⟨rfl, rfl, rfl, by decide +kernel, rfl, by decide +kernel, by decide +kernel⟩
noncomputable def b_act_on_slots : Es :=
  (xSeq (xSet (.one 3) (fIx vIx (fVar 0) (fC (.int 1))))
  (xSeq (xIf (tV (fBin vEq (fIx vIx (fVar 0) (fC (.int 0))) (fC (.str (PySem.Str.ofString "new"))))) (xRet (fTup (aCons (fCall g_put (aCons (fIx vIx (fVar 2) (fC (.int 2))) (aCons (fVar 3) (aCons (fTup (aCons (fVar 1) (aCons (fIx vIx (fVar 2) (fC (.int 6))) aNil))) aNil)))) (aCons (fBin vAdd (fIx vIx (fVar 2) (fC (.int 6))) (fC (.int 1))) aNil)))) xNil)
  (xRet (fTup (aCons (fCall g_put (aCons (fIx vIx (fVar 2) (fC (.int 2))) (aCons (fVar 3) (aCons (fC .non) aNil)))) (aCons (fIx vIx (fVar 2) (fC (.int 6))) aNil))))))
noncomputable def g_act_on_slots : Fn := gB b_act_on_slots N_act_on_slots 3
theorem gd_act_on_slots (a0 a1 a2 : Val) (st : Store) : g_act_on_slots [a0, a1, a2] st = fin3 st (b_act_on_slots [some a0, some a1, some a2, none] st) := gB_eq rfl
theorem ss_act_on_slots {P : Program} {w : World} {K : PySem.W.Frag} {mg : Str → Option Value} {base : Heap} (o_put : OwnM P w K mg base 1 "put" g_put) :
  SSs ⟨P, w, K, mg, base, N_act_on_slots, defScope s_act_on_slots, fun _ => true, 1, sc_act_on_slots.nd⟩ (defBody s_act_on_slots) b_act_on_slots :=
  (ssl_cons (ss_set (tg_one 3 (by rfl) (by first | exact Or.inl rfl | exact Or.inr rfl) (by rfl)) (se_ix xs_ix (se_var 0 (by rfl) (by first | exact Or.inl rfl | exact Or.inr (Or.inl rfl) | exact Or.inr (Or.inr rfl)) (by rfl) (by rfl)) se_int (fun _ _ => rfl)) (fun _ _ => by rfl) (fun _ => by rfl) (fun _ => by rfl))
  (ssl_cons (ss_if (st_cmp os_eq (se_ix xs_ix (se_var 0 (by rfl) (by first | exact Or.inl rfl | exact Or.inr (Or.inl rfl) | exact Or.inr (Or.inr rfl)) (by rfl) (by rfl)) se_int (fun _ _ => rfl)) se_str (by rfl)) (ssl_one (ss_ret (se_tup (sa_cons (se_call (OwnM.own o_put (by rfl) (by rfl) (Nat.le_of_ble_eq_true (by rfl)) (by exact ⟨rfl, rfl, rfl, rfl, rfl⟩)) (sa_cons (se_ix xs_ix (se_var 2 (by rfl) (by first | exact Or.inl rfl | exact Or.inr (Or.inl rfl) | exact Or.inr (Or.inr rfl)) (by rfl) (by rfl)) se_int (fun _ _ => rfl)) (sa_cons (se_var 3 (by rfl) (by first | exact Or.inl rfl | exact Or.inr (Or.inl rfl) | exact Or.inr (Or.inr rfl)) (by rfl) (by rfl)) (sa_cons (se_tup (sa_cons (se_var 1 (by rfl) (by first | exact Or.inl rfl | exact Or.inr (Or.inl rfl) | exact Or.inr (Or.inr rfl)) (by rfl) (by rfl)) (sa_cons (se_ix xs_ix (se_var 2 (by rfl) (by first | exact Or.inl rfl | exact Or.inr (Or.inl rfl) | exact Or.inr (Or.inr rfl)) (by rfl) (by rfl)) se_int (fun _ _ => rfl)) sa_nil (fun _ => by rfl)) (fun _ => by rfl))) sa_nil (fun _ => by rfl)) (fun _ => by rfl)) (fun _ => by rfl)) (fun _ => by rfl) (fun _ => by rfl)) (sa_cons (se_op os_add (se_ix xs_ix (se_var 2 (by rfl) (by first | exact Or.inl rfl | exact Or.inr (Or.inl rfl) | exact Or.inr (Or.inr rfl)) (by rfl) (by rfl)) se_int (fun _ _ => rfl)) se_int) sa_nil (fun _ => by rfl)) (fun _ => by rfl))))) ssl_nil)
  (ssl_one (ss_ret (se_tup (sa_cons (se_call (OwnM.own o_put (by rfl) (by rfl) (Nat.le_of_ble_eq_true (by rfl)) (by exact ⟨rfl, rfl, rfl, rfl, rfl⟩)) (sa_cons (se_ix xs_ix (se_var 2 (by rfl) (by first | exact Or.inl rfl | exact Or.inr (Or.inl rfl) | exact Or.inr (Or.inr rfl)) (by rfl) (by rfl)) se_int (fun _ _ => rfl)) (sa_cons (se_var 3 (by rfl) (by first | exact Or.inl rfl | exact Or.inr (Or.inl rfl) | exact Or.inr (Or.inr rfl)) (by rfl) (by rfl)) (sa_cons se_non sa_nil (fun _ => by rfl)) (fun _ => by rfl)) (fun _ => by rfl)) (fun _ => by rfl) (fun _ => by rfl)) (sa_cons (se_ix xs_ix (se_var 2 (by rfl) (by first | exact Or.inl rfl | exact Or.inr (Or.inl rfl) | exact Or.inr (Or.inr rfl)) (by rfl) (by rfl)) se_int (fun _ _ => rfl)) sa_nil (fun _ => by rfl)) (fun _ => by rfl)))))))
theorem own_act_on_slots {P : Program} {w : World} {K : PySem.W.Frag} {mg : Str → Option Value} {base : Heap} {fa : Addr} {fd : FuncData} (F : Fun K "act_on_slots" "act_on_slots" s_act_on_slots fa fd) (hm : mg "act_on_slots" = some (.ref fa)) (o_put : OwnM P w K mg base 1 "put" g_put) : OwnM P w K mg base 2 "act_on_slots" g_act_on_slots :=
  ownM F hm (F.binds (ps := ["instruction", "number", "state"]) fun _ _ _ _ _ _ us hl => match us, hl with | [_, _, _], _ => rfl) sc_act_on_slots (ss_act_on_slots o_put) (fun _ _ _ h => gB_len _ _ _ h) (fun _ _ _ _ h => gB_gives _ _ _ _ h)
abbrev N_taken : List Str := ["state", "crowd", "place"]
theorem sc_taken : FnScope N_taken ["state", "crowd"] (defScope s_taken) := ⟨rfl, rfl, rfl, by decide +kernel, rfl, by decide +kernel, by decide +kernel⟩
noncomputable def b_taken : Es :=
  (xSeq (xSet (.one 2) (fCall g_first_item (aCons (fIx vIx (fVar 0) (fC (.int 4))) (aCons (fVar 1) aNil))))
  (xRet (fTup (aCons (fIx vIx (fIx vIx (fVar 0) (fC (.int 4))) (fVar 2)) (aCons (fBin vAdd (fSl vSl (fIx vIx (fVar 0) (fC (.int 4))) oNone (oSome (fVar 2))) (fSl vSl (fIx vIx (fVar 0) (fC (.int 4))) (oSome (fBin vAdd (fVar 2) (fC (.int 1)))) oNone)) aNil)))))
noncomputable def g_taken : Fn := gB b_taken N_taken 2
theorem gd_taken (a0 a1 : Val) (st : Store) : g_taken [a0, a1] st = fin3 st (b_taken [some a0, some a1, none] st) := gB_eq rfl
theorem ss_taken {P : Program} {w : World} {K : PySem.W.Frag} {mg : Str → Option Value} {base : Heap} (o_first_item : OwnM P w K mg base 1 "first_item" g_first_item) :
  SSs ⟨P, w, K, mg, base, N_taken, defScope s_taken, fun _ => true, 1, sc_taken.nd⟩ (defBody s_taken) b_taken :=
  (ssl_cons (ss_set (tg_one 2 (by rfl) (by first | exact Or.inl rfl | exact Or.inr rfl) (by rfl)) (se_call (OwnM.own o_first_item (by rfl) (by rfl) (Nat.le_of_ble_eq_true (by rfl)) (by exact ⟨rfl, rfl, rfl, rfl, rfl⟩)) (sa_cons (se_ix xs_ix (se_var 0 (by rfl) (by first | exact Or.inl rfl | exact Or.inr (Or.inl rfl) | exact Or.inr (Or.inr rfl)) (by rfl) (by rfl)) se_int (fun _ _ => rfl)) (sa_cons (se_var 1 (by rfl) (by first | exact Or.inl rfl | exact Or.inr (Or.inl rfl) | exact Or.inr (Or.inr rfl)) (by rfl) (by rfl)) sa_nil (fun _ => by rfl)) (fun _ => by rfl)) (fun _ => by rfl) (fun _ => by rfl)) (fun _ _ => by rfl) (fun _ => by rfl) (fun _ => by rfl))
  (ssl_one (ss_ret (se_tup (sa_cons (se_ix xs_ix (se_ix xs_ix (se_var 0 (by rfl) (by first | exact Or.inl rfl | exact Or.inr (Or.inl rfl) | exact Or.inr (Or.inr rfl)) (by rfl) (by rfl)) se_int (fun _ _ => rfl)) (se_var 2 (by rfl) (by first | exact Or.inl rfl | exact Or.inr (Or.inl rfl) | exact Or.inr (Or.inr rfl)) (by rfl) (by rfl)) (fun _ _ => rfl)) (sa_cons (se_op os_add (se_slice ls_sl (se_ix xs_ix (se_var 0 (by rfl) (by first | exact Or.inl rfl | exact Or.inr (Or.inl rfl) | exact Or.inr (Or.inr rfl)) (by rfl) (by rfl)) se_int (fun _ _ => rfl)) so_none (so_some (se_var 2 (by rfl) (by first | exact Or.inl rfl | exact Or.inr (Or.inl rfl) | exact Or.inr (Or.inr rfl)) (by rfl) (by rfl)))) (se_slice ls_sl (se_ix xs_ix (se_var 0 (by rfl) (by first | exact Or.inl rfl | exact Or.inr (Or.inl rfl) | exact Or.inr (Or.inr rfl)) (by rfl) (by rfl)) se_int (fun _ _ => rfl)) (so_some (se_op os_add (se_var 2 (by rfl) (by first | exact Or.inl rfl | exact Or.inr (Or.inl rfl) | exact Or.inr (Or.inr rfl)) (by rfl) (by rfl)) se_int)) so_none)) sa_nil (fun _ => by rfl)) (fun _ => by rfl))))))
theorem own_taken {P : Program} {w : World} {K : PySem.W.Frag} {mg : Str → Option Value} {base : Heap} {fa : Addr} {fd : FuncData} (F : Fun K "taken" "taken" s_taken fa fd) (hm : mg "taken" = some (.ref fa)) (o_first_item : OwnM P w K mg base 1 "first_item" g_first_item) : OwnM P w K mg base 2 "taken" g_taken :=
  ownM F hm (F.binds (ps := ["state", "crowd"]) fun _ _ _ _ _ _ us hl => match us, hl with | [_, _], _ => rfl) sc_taken (ss_taken o_first_item) (fun _ _ _ h => gB_len _ _ _ h) (fun _ _ _ _ h => gB_gives _ _ _ _ h)
abbrev N_act_of_taking : List Str := ["instruction", "state", "item", "inbox", "sender", "payload", "held", "value"]
theorem sc_act_of_taking : FnScope N_act_of_taking ["instruction", "state"] (defScope s_act_of_taking) := ⟨rfl, rfl, rfl, by decide +kernel, rfl, by decide +kernel, by decide +kernel⟩
noncomputable def b_act_of_taking : Es :=
  (xSeq (xSet (.many [2, 3]) (fCall g_taken (aCons (fVar 1) (aCons (fIx vIx (fVar 0) (fC (.int 2))) aNil))))
  (xSeq (xSet (.many [4, 5]) (fVar 2))
  (xSeq (xIf (tV (fBin vEq (fIx vIx (fVar 0) (fC (.int 0))) (fC (.str (PySem.Str.ofString "hold"))))) (xSeq (xSet (.one 6) (fIf (tV (fBin vEq (fIx vIx (fVar 5) (fC (.int 0))) (fC (.str (PySem.Str.ofString "object"))))) (fSl vSl (fVar 5) (oSome (fC (.int 1))) oNone) (fC .non)))
  (xRet (fTup (aCons (fIx vIx (fVar 1) (fC (.int 1))) (aCons (fCall g_put (aCons (fIx vIx (fVar 1) (fC (.int 2))) (aCons (fIx vIx (fVar 0) (fC (.int 1))) (aCons (fVar 6) aNil)))) (aCons (fVar 4) (aCons (fVar 3) aNil))))))) xNil)
  (xSeq (xSet (.one 7) (fIf (tV (fBin vEq (fIx vIx (fVar 5) (fC (.int 0))) (fC (.str (PySem.Str.ofString "number"))))) (fIx vIx (fVar 5) (fC (.int 1))) (fC (.int 0))))
  (xRet (fTup (aCons (fCall g_put (aCons (fIx vIx (fVar 1) (fC (.int 1))) (aCons (fIx vIx (fVar 0) (fC (.int 1))) (aCons (fVar 7) aNil)))) (aCons (fIx vIx (fVar 1) (fC (.int 2))) (aCons (fVar 4) (aCons (fVar 3) aNil))))))))))
noncomputable def g_act_of_taking : Fn := gB b_act_of_taking N_act_of_taking 2
theorem gd_act_of_taking (a0 a1 : Val) (st : Store) : g_act_of_taking [a0, a1] st = fin3 st (b_act_of_taking [some a0, some a1, none, none, none, none, none, none] st) := gB_eq rfl
theorem ss_act_of_taking {P : Program} {w : World} {K : PySem.W.Frag} {mg : Str → Option Value} {base : Heap} (o_taken : OwnM P w K mg base 2 "taken" g_taken) (o_put : OwnM P w K mg base 1 "put" g_put) :
  SSs ⟨P, w, K, mg, base, N_act_of_taking, defScope s_act_of_taking, fun _ => true, 2, sc_act_of_taking.nd⟩ (defBody s_act_of_taking) b_act_of_taking :=
  (ssl_cons (ss_set (tg_many (tgs_cons (tg_one 2 (by rfl) (by first | exact Or.inl rfl | exact Or.inr rfl) (by rfl)) (tgs_cons (tg_one 3 (by rfl) (by first | exact Or.inl rfl | exact Or.inr rfl) (by rfl)) tgs_nil (fun _ => by rfl)) (fun _ => by rfl)) (fun _ => by rfl) (fun _ => by rfl)) (se_call (OwnM.own o_taken (by rfl) (by rfl) (Nat.le_of_ble_eq_true (by rfl)) (by exact ⟨rfl, rfl, rfl, rfl, rfl⟩)) (sa_cons (se_var 1 (by rfl) (by first | exact Or.inl rfl | exact Or.inr (Or.inl rfl) | exact Or.inr (Or.inr rfl)) (by rfl) (by rfl)) (sa_cons (se_ix xs_ix (se_var 0 (by rfl) (by first | exact Or.inl rfl | exact Or.inr (Or.inl rfl) | exact Or.inr (Or.inr rfl)) (by rfl) (by rfl)) se_int (fun _ _ => rfl)) sa_nil (fun _ => by rfl)) (fun _ => by rfl)) (fun _ => by rfl) (fun _ => by rfl)) (fun _ _ => by rfl) (fun _ => by rfl) (fun _ => by rfl))
  (ssl_cons (ss_set (tg_many (tgs_cons (tg_one 4 (by rfl) (by first | exact Or.inl rfl | exact Or.inr rfl) (by rfl)) (tgs_cons (tg_one 5 (by rfl) (by first | exact Or.inl rfl | exact Or.inr rfl) (by rfl)) tgs_nil (fun _ => by rfl)) (fun _ => by rfl)) (fun _ => by rfl) (fun _ => by rfl)) (se_var 2 (by rfl) (by first | exact Or.inl rfl | exact Or.inr (Or.inl rfl) | exact Or.inr (Or.inr rfl)) (by rfl) (by rfl)) (fun _ _ => by rfl) (fun _ => by rfl) (fun _ => by rfl))
  (ssl_cons (ss_if (st_cmp os_eq (se_ix xs_ix (se_var 0 (by rfl) (by first | exact Or.inl rfl | exact Or.inr (Or.inl rfl) | exact Or.inr (Or.inr rfl)) (by rfl) (by rfl)) se_int (fun _ _ => rfl)) se_str (by rfl)) (ssl_cons (ss_set (tg_one 6 (by rfl) (by first | exact Or.inl rfl | exact Or.inr rfl) (by rfl)) (se_if (st_cmp os_eq (se_ix xs_ix (se_var 5 (by rfl) (by first | exact Or.inl rfl | exact Or.inr (Or.inl rfl) | exact Or.inr (Or.inr rfl)) (by rfl) (by rfl)) se_int (fun _ _ => rfl)) se_str (by rfl)) (se_slice ls_sl (se_var 5 (by rfl) (by first | exact Or.inl rfl | exact Or.inr (Or.inl rfl) | exact Or.inr (Or.inr rfl)) (by rfl) (by rfl)) (so_some se_int) so_none) se_non) (fun _ _ => by rfl) (fun _ => by rfl) (fun _ => by rfl))
  (ssl_one (ss_ret (se_tup (sa_cons (se_ix xs_ix (se_var 1 (by rfl) (by first | exact Or.inl rfl | exact Or.inr (Or.inl rfl) | exact Or.inr (Or.inr rfl)) (by rfl) (by rfl)) se_int (fun _ _ => rfl)) (sa_cons (se_call (OwnM.own o_put (by rfl) (by rfl) (Nat.le_of_ble_eq_true (by rfl)) (by exact ⟨rfl, rfl, rfl, rfl, rfl⟩)) (sa_cons (se_ix xs_ix (se_var 1 (by rfl) (by first | exact Or.inl rfl | exact Or.inr (Or.inl rfl) | exact Or.inr (Or.inr rfl)) (by rfl) (by rfl)) se_int (fun _ _ => rfl)) (sa_cons (se_ix xs_ix (se_var 0 (by rfl) (by first | exact Or.inl rfl | exact Or.inr (Or.inl rfl) | exact Or.inr (Or.inr rfl)) (by rfl) (by rfl)) se_int (fun _ _ => rfl)) (sa_cons (se_var 6 (by rfl) (by first | exact Or.inl rfl | exact Or.inr (Or.inl rfl) | exact Or.inr (Or.inr rfl)) (by rfl) (by rfl)) sa_nil (fun _ => by rfl)) (fun _ => by rfl)) (fun _ => by rfl)) (fun _ => by rfl) (fun _ => by rfl)) (sa_cons (se_var 4 (by rfl) (by first | exact Or.inl rfl | exact Or.inr (Or.inl rfl) | exact Or.inr (Or.inr rfl)) (by rfl) (by rfl)) (sa_cons (se_var 3 (by rfl) (by first | exact Or.inl rfl | exact Or.inr (Or.inl rfl) | exact Or.inr (Or.inr rfl)) (by rfl) (by rfl)) sa_nil (fun _ => by rfl)) (fun _ => by rfl)) (fun _ => by rfl)) (fun _ => by rfl)))))) ssl_nil)
  (ssl_cons (ss_set (tg_one 7 (by rfl) (by first | exact Or.inl rfl | exact Or.inr rfl) (by rfl)) (se_if (st_cmp os_eq (se_ix xs_ix (se_var 5 (by rfl) (by first | exact Or.inl rfl | exact Or.inr (Or.inl rfl) | exact Or.inr (Or.inr rfl)) (by rfl) (by rfl)) se_int (fun _ _ => rfl)) se_str (by rfl)) (se_ix xs_ix (se_var 5 (by rfl) (by first | exact Or.inl rfl | exact Or.inr (Or.inl rfl) | exact Or.inr (Or.inr rfl)) (by rfl) (by rfl)) se_int (fun _ _ => rfl)) se_int) (fun _ _ => by rfl) (fun _ => by rfl) (fun _ => by rfl))
  (ssl_one (ss_ret (se_tup (sa_cons (se_call (OwnM.own o_put (by rfl) (by rfl) (Nat.le_of_ble_eq_true (by rfl)) (by exact ⟨rfl, rfl, rfl, rfl, rfl⟩)) (sa_cons (se_ix xs_ix (se_var 1 (by rfl) (by first | exact Or.inl rfl | exact Or.inr (Or.inl rfl) | exact Or.inr (Or.inr rfl)) (by rfl) (by rfl)) se_int (fun _ _ => rfl)) (sa_cons (se_ix xs_ix (se_var 0 (by rfl) (by first | exact Or.inl rfl | exact Or.inr (Or.inl rfl) | exact Or.inr (Or.inr rfl)) (by rfl) (by rfl)) se_int (fun _ _ => rfl)) (sa_cons (se_var 7 (by rfl) (by first | exact Or.inl rfl | exact Or.inr (Or.inl rfl) | exact Or.inr (Or.inr rfl)) (by rfl) (by rfl)) sa_nil (fun _ => by rfl)) (fun _ => by rfl)) (fun _ => by rfl)) (fun _ => by rfl) (fun _ => by rfl)) (sa_cons (se_ix xs_ix (se_var 1 (by rfl) (by first | exact Or.inl rfl | exact Or.inr (Or.inl rfl) | exact Or.inr (Or.inr rfl)) (by rfl) (by rfl)) se_int (fun _ _ => rfl)) (sa_cons (se_var 4 (by rfl) (by first | exact Or.inl rfl | exact Or.inr (Or.inl rfl) | exact Or.inr (Or.inr rfl)) (by rfl) (by rfl)) (sa_cons (se_var 3 (by rfl) (by first | exact Or.inl rfl | exact Or.inr (Or.inl rfl) | exact Or.inr (Or.inr rfl)) (by rfl) (by rfl)) sa_nil (fun _ => by rfl)) (fun _ => by rfl)) (fun _ => by rfl)) (fun _ => by rfl)))))))))
theorem own_act_of_taking {P : Program} {w : World} {K : PySem.W.Frag} {mg : Str → Option Value} {base : Heap} {fa : Addr} {fd : FuncData} (F : Fun K "act_of_taking" "act_of_taking" s_act_of_taking fa fd) (hm : mg "act_of_taking" = some (.ref fa)) (o_taken : OwnM P w K mg base 2 "taken" g_taken) (o_put : OwnM P w K mg base 1 "put" g_put) : OwnM P w K mg base 3 "act_of_taking" g_act_of_taking :=
  ownM F hm (F.binds (ps := ["instruction", "state"]) fun _ _ _ _ _ _ us hl => match us, hl with | [_, _], _ => rfl) sc_act_of_taking (ss_act_of_taking o_taken o_put) (fun _ _ _ h => gB_len _ _ _ h) (fun _ _ _ _ h => gB_gives _ _ _ _ h)
abbrev N_act : List Str := ["code", "number", "state", "at", "registers", "slots", "sender", "inbox", "acts", "made", "instruction", "sent"]
theorem sc_act : FnScope N_act ["code", "number", "state"] (defScope s_act) := ⟨rfl, rfl, rfl, by decide +kernel, rfl, by decide +kernel, by decide +kernel⟩
noncomputable def b_act : Es :=
  (xSeq (xSet (.many [3, 4, 5, 6, 7, 8, 9]) (fVar 2))
  (xSeq (xSet (.one 10) (fIx vIx (fVar 0) (fVar 3)))
  (xSeq (xSet (.one 11) (fCall g_sent_by (aCons (fVar 10) (aCons (fVar 2) aNil))))
  (xSeq (xSet (.one 3) (fBin vAdd (fVar 3) (fC (.int 1))))
  (xSeq (xIf (tV (fBin vIn (fIx vIx (fVar 10) (fC (.int 0))) (fTup (aCons (fC (.str (PySem.Str.ofString "set"))) (aCons (fC (.str (PySem.Str.ofString "add"))) (aCons (fC (.str (PySem.Str.ofString "test"))) aNil)))))) (xSet (.many [4, 3]) (fCall g_act_on_registers (aCons (fVar 10) (aCons (fVar 2) aNil)))) (xIf (tV (fBin vIn (fIx vIx (fVar 10) (fC (.int 0))) (fTup (aCons (fC (.str (PySem.Str.ofString "new"))) (aCons (fC (.str (PySem.Str.ofString "drop"))) aNil))))) (xSet (.many [5, 9]) (fCall g_act_on_slots (aCons (fVar 10) (aCons (fVar 1) (aCons (fVar 2) aNil))))) (xIf (tV (fBin vIn (fIx vIx (fVar 10) (fC (.int 0))) (fTup (aCons (fC (.str (PySem.Str.ofString "get"))) (aCons (fC (.str (PySem.Str.ofString "hold"))) aNil))))) (xSet (.many [4, 5, 6, 7]) (fCall g_act_of_taking (aCons (fVar 10) (aCons (fVar 2) aNil)))) xNil)))
  (xRet (fTup (aCons (fTup (aCons (fVar 3) (aCons (fVar 4) (aCons (fVar 5) (aCons (fVar 6) (aCons (fVar 7) (aCons (fBin vAdd (fVar 8) (fC (.int 1))) (aCons (fVar 9) aNil)))))))) (aCons (fVar 11) aNil)))))))))
noncomputable def g_act : Fn := gB b_act N_act 3
theorem gd_act (a0 a1 a2 : Val) (st : Store) : g_act [a0, a1, a2] st = fin3 st (b_act [some a0, some a1, some a2, none, none, none, none, none, none, none, none, none] st) := gB_eq rfl
theorem ss_act {P : Program} {w : World} {K : PySem.W.Frag} {mg : Str → Option Value} {base : Heap} (o_sent_by : OwnM P w K mg base 1 "sent_by" g_sent_by) (o_act_on_registers : OwnM P w K mg base 2 "act_on_registers" g_act_on_registers) (o_act_on_slots : OwnM P w K mg base 2 "act_on_slots" g_act_on_slots) (o_act_of_taking : OwnM P w K mg base 3 "act_of_taking" g_act_of_taking) :
  SSs ⟨P, w, K, mg, base, N_act, defScope s_act, fun _ => true, 3, sc_act.nd⟩ (defBody s_act) b_act :=
  (ssl_cons (ss_set (tg_many (tgs_cons (tg_one 3 (by rfl) (by first | exact Or.inl rfl | exact Or.inr rfl) (by rfl)) (tgs_cons (tg_one 4 (by rfl) (by first | exact Or.inl rfl | exact Or.inr rfl) (by rfl)) (tgs_cons (tg_one 5 (by rfl) (by first | exact Or.inl rfl | exact Or.inr rfl) (by rfl)) (tgs_cons (tg_one 6 (by rfl) (by first | exact Or.inl rfl | exact Or.inr rfl) (by rfl)) (tgs_cons (tg_one 7 (by rfl) (by first | exact Or.inl rfl | exact Or.inr rfl) (by rfl)) (tgs_cons (tg_one 8 (by rfl) (by first | exact Or.inl rfl | exact Or.inr rfl) (by rfl)) (tgs_cons (tg_one 9 (by rfl) (by first | exact Or.inl rfl | exact Or.inr rfl) (by rfl)) tgs_nil (fun _ => by rfl)) (fun _ => by rfl)) (fun _ => by rfl)) (fun _ => by rfl)) (fun _ => by rfl)) (fun _ => by rfl)) (fun _ => by rfl)) (fun _ => by rfl) (fun _ => by rfl)) (se_var 2 (by rfl) (by first | exact Or.inl rfl | exact Or.inr (Or.inl rfl) | exact Or.inr (Or.inr rfl)) (by rfl) (by rfl)) (fun _ _ => by rfl) (fun _ => by rfl) (fun _ => by rfl))
  (ssl_cons (ss_set (tg_one 10 (by rfl) (by first | exact Or.inl rfl | exact Or.inr rfl) (by rfl)) (se_ix xs_ix (se_var 0 (by rfl) (by first | exact Or.inl rfl | exact Or.inr (Or.inl rfl) | exact Or.inr (Or.inr rfl)) (by rfl) (by rfl)) (se_var 3 (by rfl) (by first | exact Or.inl rfl | exact Or.inr (Or.inl rfl) | exact Or.inr (Or.inr rfl)) (by rfl) (by rfl)) (fun _ _ => rfl)) (fun _ _ => by rfl) (fun _ => by rfl) (fun _ => by rfl))
  (ssl_cons (ss_set (tg_one 11 (by rfl) (by first | exact Or.inl rfl | exact Or.inr rfl) (by rfl)) (se_call (OwnM.own o_sent_by (by rfl) (by rfl) (Nat.le_of_ble_eq_true (by rfl)) (by exact ⟨rfl, rfl, rfl, rfl, rfl⟩)) (sa_cons (se_var 10 (by rfl) (by first | exact Or.inl rfl | exact Or.inr (Or.inl rfl) | exact Or.inr (Or.inr rfl)) (by rfl) (by rfl)) (sa_cons (se_var 2 (by rfl) (by first | exact Or.inl rfl | exact Or.inr (Or.inl rfl) | exact Or.inr (Or.inr rfl)) (by rfl) (by rfl)) sa_nil (fun _ => by rfl)) (fun _ => by rfl)) (fun _ => by rfl) (fun _ => by rfl)) (fun _ _ => by rfl) (fun _ => by rfl) (fun _ => by rfl))
  (ssl_cons (ss_set (tg_one 3 (by rfl) (by first | exact Or.inl rfl | exact Or.inr rfl) (by rfl)) (se_op os_add (se_var 3 (by rfl) (by first | exact Or.inl rfl | exact Or.inr (Or.inl rfl) | exact Or.inr (Or.inr rfl)) (by rfl) (by rfl)) se_int) (fun _ _ => by rfl) (fun _ => by rfl) (fun _ => by rfl))
  (ssl_cons (ss_if (st_cmp os_in (se_ix xs_ix (se_var 10 (by rfl) (by first | exact Or.inl rfl | exact Or.inr (Or.inl rfl) | exact Or.inr (Or.inr rfl)) (by rfl) (by rfl)) se_int (fun _ _ => rfl)) (se_tup (sa_cons se_str (sa_cons se_str (sa_cons se_str sa_nil (fun _ => by rfl)) (fun _ => by rfl)) (fun _ => by rfl))) (by rfl)) (ssl_one (ss_set (tg_many (tgs_cons (tg_one 4 (by rfl) (by first | exact Or.inl rfl | exact Or.inr rfl) (by rfl)) (tgs_cons (tg_one 3 (by rfl) (by first | exact Or.inl rfl | exact Or.inr rfl) (by rfl)) tgs_nil (fun _ => by rfl)) (fun _ => by rfl)) (fun _ => by rfl) (fun _ => by rfl)) (se_call (OwnM.own o_act_on_registers (by rfl) (by rfl) (Nat.le_of_ble_eq_true (by rfl)) (by exact ⟨rfl, rfl, rfl, rfl, rfl⟩)) (sa_cons (se_var 10 (by rfl) (by first | exact Or.inl rfl | exact Or.inr (Or.inl rfl) | exact Or.inr (Or.inr rfl)) (by rfl) (by rfl)) (sa_cons (se_var 2 (by rfl) (by first | exact Or.inl rfl | exact Or.inr (Or.inl rfl) | exact Or.inr (Or.inr rfl)) (by rfl) (by rfl)) sa_nil (fun _ => by rfl)) (fun _ => by rfl)) (fun _ => by rfl) (fun _ => by rfl)) (fun _ _ => by rfl) (fun _ => by rfl) (fun _ => by rfl))) (ssl_one (ss_if (st_cmp os_in (se_ix xs_ix (se_var 10 (by rfl) (by first | exact Or.inl rfl | exact Or.inr (Or.inl rfl) | exact Or.inr (Or.inr rfl)) (by rfl) (by rfl)) se_int (fun _ _ => rfl)) (se_tup (sa_cons se_str (sa_cons se_str sa_nil (fun _ => by rfl)) (fun _ => by rfl))) (by rfl)) (ssl_one (ss_set (tg_many (tgs_cons (tg_one 5 (by rfl) (by first | exact Or.inl rfl | exact Or.inr rfl) (by rfl)) (tgs_cons (tg_one 9 (by rfl) (by first | exact Or.inl rfl | exact Or.inr rfl) (by rfl)) tgs_nil (fun _ => by rfl)) (fun _ => by rfl)) (fun _ => by rfl) (fun _ => by rfl)) (se_call (OwnM.own o_act_on_slots (by rfl) (by rfl) (Nat.le_of_ble_eq_true (by rfl)) (by exact ⟨rfl, rfl, rfl, rfl, rfl⟩)) (sa_cons (se_var 10 (by rfl) (by first | exact Or.inl rfl | exact Or.inr (Or.inl rfl) | exact Or.inr (Or.inr rfl)) (by rfl) (by rfl)) (sa_cons (se_var 1 (by rfl) (by first | exact Or.inl rfl | exact Or.inr (Or.inl rfl) | exact Or.inr (Or.inr rfl)) (by rfl) (by rfl)) (sa_cons (se_var 2 (by rfl) (by first | exact Or.inl rfl | exact Or.inr (Or.inl rfl) | exact Or.inr (Or.inr rfl)) (by rfl) (by rfl)) sa_nil (fun _ => by rfl)) (fun _ => by rfl)) (fun _ => by rfl)) (fun _ => by rfl) (fun _ => by rfl)) (fun _ _ => by rfl) (fun _ => by rfl) (fun _ => by rfl))) (ssl_one (ss_if (st_cmp os_in (se_ix xs_ix (se_var 10 (by rfl) (by first | exact Or.inl rfl | exact Or.inr (Or.inl rfl) | exact Or.inr (Or.inr rfl)) (by rfl) (by rfl)) se_int (fun _ _ => rfl)) (se_tup (sa_cons se_str (sa_cons se_str sa_nil (fun _ => by rfl)) (fun _ => by rfl))) (by rfl)) (ssl_one (ss_set (tg_many (tgs_cons (tg_one 4 (by rfl) (by first | exact Or.inl rfl | exact Or.inr rfl) (by rfl)) (tgs_cons (tg_one 5 (by rfl) (by first | exact Or.inl rfl | exact Or.inr rfl) (by rfl)) (tgs_cons (tg_one 6 (by rfl) (by first | exact Or.inl rfl | exact Or.inr rfl) (by rfl)) (tgs_cons (tg_one 7 (by rfl) (by first | exact Or.inl rfl | exact Or.inr rfl) (by rfl)) tgs_nil (fun _ => by rfl)) (fun _ => by rfl)) (fun _ => by rfl)) (fun _ => by rfl)) (fun _ => by rfl) (fun _ => by rfl)) (se_call (OwnM.own o_act_of_taking (by rfl) (by rfl) (Nat.le_of_ble_eq_true (by rfl)) (by exact ⟨rfl, rfl, rfl, rfl, rfl⟩)) (sa_cons (se_var 10 (by rfl) (by first | exact Or.inl rfl | exact Or.inr (Or.inl rfl) | exact Or.inr (Or.inr rfl)) (by rfl) (by rfl)) (sa_cons (se_var 2 (by rfl) (by first | exact Or.inl rfl | exact Or.inr (Or.inl rfl) | exact Or.inr (Or.inr rfl)) (by rfl) (by rfl)) sa_nil (fun _ => by rfl)) (fun _ => by rfl)) (fun _ => by rfl) (fun _ => by rfl)) (fun _ _ => by rfl) (fun _ => by rfl) (fun _ => by rfl))) ssl_nil)))))
  (ssl_one (ss_ret (se_tup (sa_cons (se_tup (sa_cons (se_var 3 (by rfl) (by first | exact Or.inl rfl | exact Or.inr (Or.inl rfl) | exact Or.inr (Or.inr rfl)) (by rfl) (by rfl)) (sa_cons (se_var 4 (by rfl) (by first | exact Or.inl rfl | exact Or.inr (Or.inl rfl) | exact Or.inr (Or.inr rfl)) (by rfl) (by rfl)) (sa_cons (se_var 5 (by rfl) (by first | exact Or.inl rfl | exact Or.inr (Or.inl rfl) | exact Or.inr (Or.inr rfl)) (by rfl) (by rfl)) (sa_cons (se_var 6 (by rfl) (by first | exact Or.inl rfl | exact Or.inr (Or.inl rfl) | exact Or.inr (Or.inr rfl)) (by rfl) (by rfl)) (sa_cons (se_var 7 (by rfl) (by first | exact Or.inl rfl | exact Or.inr (Or.inl rfl) | exact Or.inr (Or.inr rfl)) (by rfl) (by rfl)) (sa_cons (se_op os_add (se_var 8 (by rfl) (by first | exact Or.inl rfl | exact Or.inr (Or.inl rfl) | exact Or.inr (Or.inr rfl)) (by rfl) (by rfl)) se_int) (sa_cons (se_var 9 (by rfl) (by first | exact Or.inl rfl | exact Or.inr (Or.inl rfl) | exact Or.inr (Or.inr rfl)) (by rfl) (by rfl)) sa_nil (fun _ => by rfl)) (fun _ => by rfl)) (fun _ => by rfl)) (fun _ => by rfl)) (fun _ => by rfl)) (fun _ => by rfl)) (fun _ => by rfl))) (sa_cons (se_var 11 (by rfl) (by first | exact Or.inl rfl | exact Or.inr (Or.inl rfl) | exact Or.inr (Or.inr rfl)) (by rfl) (by rfl)) sa_nil (fun _ => by rfl)) (fun _ => by rfl))))))))))
theorem own_act {P : Program} {w : World} {K : PySem.W.Frag} {mg : Str → Option Value} {base : Heap} {fa : Addr} {fd : FuncData} (F : Fun K "act" "act" s_act fa fd) (hm : mg "act" = some (.ref fa)) (o_sent_by : OwnM P w K mg base 1 "sent_by" g_sent_by) (o_act_on_registers : OwnM P w K mg base 2 "act_on_registers" g_act_on_registers) (o_act_on_slots : OwnM P w K mg base 2 "act_on_slots" g_act_on_slots) (o_act_of_taking : OwnM P w K mg base 3 "act_of_taking" g_act_of_taking) : OwnM P w K mg base 4 "act" g_act :=
  ownM F hm (F.binds (ps := ["code", "number", "state"]) fun _ _ _ _ _ _ us hl => match us, hl with | [_, _, _], _ => rfl) sc_act (ss_act o_sent_by o_act_on_registers o_act_on_slots o_act_of_taking) (fun _ _ _ h => gB_len _ _ _ h) (fun _ _ _ _ h => gB_gives _ _ _ _ h)
abbrev N__law_ended : List Str := ["code", "state"]
theorem sc__law_ended : FnScope N__law_ended ["code", "state"] (defScope s__law_ended) := ⟨rfl, rfl, rfl, by decide +kernel, rfl, by decide +kernel, by decide +kernel⟩
noncomputable def b__law_ended : Es :=
  (xRet (fOr (fBin vGe (fIx vIx (fVar 1) (fC (.int 0))) (fCall gLen (aCons (fVar 0) aNil))) (fOr (fBin vGe (fIx vIx (fVar 1) (fC (.int 5))) (fC (.int 40))) (fBin vEq (fIx vIx (fIx vIx (fVar 0) (fIx vIx (fVar 1) (fC (.int 0)))) (fC (.int 0))) (fC (.str (PySem.Str.ofString "end")))))))
noncomputable def g__law_ended : Fn := gB b__law_ended N__law_ended 2
theorem gd__law_ended (a0 a1 : Val) (st : Store) : g__law_ended [a0, a1] st = fin3 st (b__law_ended [some a0, some a1] st) := gB_eq rfl
theorem ss__law_ended {P : Program} {w : World} {K : PySem.W.Frag} {mg : Str → Option Value} {base : Heap} (z_len : mg "len" = none) :
  SSs ⟨P, w, K, mg, base, N__law_ended, defScope s__law_ended, fun _ => true, 0, sc__law_ended.nd⟩ (defBody s__law_ended) b__law_ended :=
  (ssl_one (ss_ret (se_or (se_cmp os_ge (se_ix xs_ix (se_var 1 (by rfl) (by first | exact Or.inl rfl | exact Or.inr (Or.inl rfl) | exact Or.inr (Or.inr rfl)) (by rfl) (by rfl)) se_int (fun _ _ => rfl)) (se_builtin (by exact ⟨rfl, rfl, by decide, z_len, by first | rfl | decide +kernel⟩) cs_len (sa_cons (se_var 0 (by rfl) (by first | exact Or.inl rfl | exact Or.inr (Or.inl rfl) | exact Or.inr (Or.inr rfl)) (by rfl) (by rfl)) sa_nil (fun _ => by rfl)) (fun _ => by rfl) (fun _ => by rfl)) (by rfl)) (se_or (se_cmp os_ge (se_ix xs_ix (se_var 1 (by rfl) (by first | exact Or.inl rfl | exact Or.inr (Or.inl rfl) | exact Or.inr (Or.inr rfl)) (by rfl) (by rfl)) se_int (fun _ _ => rfl)) se_int (by rfl)) (se_one (se_cmp os_eq (se_ix xs_ix (se_ix xs_ix (se_var 0 (by rfl) (by first | exact Or.inl rfl | exact Or.inr (Or.inl rfl) | exact Or.inr (Or.inr rfl)) (by rfl) (by rfl)) (se_ix xs_ix (se_var 1 (by rfl) (by first | exact Or.inl rfl | exact Or.inr (Or.inl rfl) | exact Or.inr (Or.inr rfl)) (by rfl) (by rfl)) se_int (fun _ _ => rfl)) (fun _ _ => rfl)) se_int (fun _ _ => rfl)) se_str (by rfl)))))))
theorem own__law_ended {P : Program} {w : World} {K : PySem.W.Frag} {mg : Str → Option Value} {base : Heap} {fa : Addr} {fd : FuncData} (F : Fun K "_law_ended" "_law_ended" s__law_ended fa fd) (hm : mg "_law_ended" = some (.ref fa)) (z_len : mg "len" = none) : OwnM P w K mg base 1 "_law_ended" g__law_ended :=
  ownM F hm (F.binds (ps := ["code", "state"]) fun _ _ _ _ _ _ us hl => match us, hl with | [_, _], _ => rfl) sc__law_ended (ss__law_ended z_len) (fun _ _ _ h => gB_len _ _ _ h) (fun _ _ _ _ h => gB_gives _ _ _ _ h)
abbrev N__law_waits : List Str := ["code", "state"]
theorem sc__law_waits : FnScope N__law_waits ["code", "state"] (defScope s__law_waits) := ⟨rfl, rfl, rfl, by decide +kernel, rfl, by decide +kernel, by decide +kernel⟩
noncomputable def b__law_waits : Es :=
  (xSeq (xIf (tOr2 (tV (fCall g__law_ended (aCons (fVar 0) (aCons (fVar 1) aNil)))) (tV (fBin vNotIn (fIx vIx (fIx vIx (fVar 0) (fIx vIx (fVar 1) (fC (.int 0)))) (fC (.int 0))) (fLst (aCons (fC (.str (PySem.Str.ofString "get"))) (aCons (fC (.str (PySem.Str.ofString "hold"))) aNil)))))) (xRet (fC .non)) xNil)
  (xSeq (xIf (tV (fBin vIsnt (fCall g__law_first_of (aCons (fIx vIx (fVar 1) (fC (.int 4))) (aCons (fIx vIx (fIx vIx (fVar 0) (fIx vIx (fVar 1) (fC (.int 0)))) (fC (.int 2))) aNil))) (fC .non))) (xRet (fC .non)) xNil)
  (xRet (fIx vIx (fIx vIx (fVar 0) (fIx vIx (fVar 1) (fC (.int 0)))) (fC (.int 2))))))
noncomputable def g__law_waits : Fn := gB b__law_waits N__law_waits 2
theorem gd__law_waits (a0 a1 : Val) (st : Store) : g__law_waits [a0, a1] st = fin3 st (b__law_waits [some a0, some a1] st) := gB_eq rfl
theorem ss__law_waits {P : Program} {w : World} {K : PySem.W.Frag} {mg : Str → Option Value} {base : Heap} (o__law_ended : OwnM P w K mg base 1 "_law_ended" g__law_ended) (o__law_first_of : OwnM P w K mg base 1 "_law_first_of" g__law_first_of) :
  SSs ⟨P, w, K, mg, base, N__law_waits, defScope s__law_waits, fun _ => true, 1, sc__law_waits.nd⟩ (defBody s__law_waits) b__law_waits :=
  (ssl_cons (ss_if (SW.st (sw_or (st_val (se_call (OwnM.own o__law_ended (by rfl) (by rfl) (Nat.le_of_ble_eq_true (by rfl)) (by exact ⟨rfl, rfl, rfl, rfl, rfl⟩)) (sa_cons (se_var 0 (by rfl) (by first | exact Or.inl rfl | exact Or.inr (Or.inl rfl) | exact Or.inr (Or.inr rfl)) (by rfl) (by rfl)) (sa_cons (se_var 1 (by rfl) (by first | exact Or.inl rfl | exact Or.inr (Or.inl rfl) | exact Or.inr (Or.inr rfl)) (by rfl) (by rfl)) sa_nil (fun _ => by rfl)) (fun _ => by rfl)) (fun _ => by rfl) (fun _ => by rfl)) (fun _ _ => rfl)) (sw_or1 (st_cmp os_notIn (se_ix xs_ix (se_ix xs_ix (se_var 0 (by rfl) (by first | exact Or.inl rfl | exact Or.inr (Or.inl rfl) | exact Or.inr (Or.inr rfl)) (by rfl) (by rfl)) (se_ix xs_ix (se_var 1 (by rfl) (by first | exact Or.inl rfl | exact Or.inr (Or.inl rfl) | exact Or.inr (Or.inr rfl)) (by rfl) (by rfl)) se_int (fun _ _ => rfl)) (fun _ _ => rfl)) se_int (fun _ _ => rfl)) (se_lst (sa_cons se_str (sa_cons se_str sa_nil (fun _ => by rfl)) (fun _ => by rfl))) (by rfl))))) (ssl_one (ss_ret se_non)) ssl_nil)
  (ssl_cons (ss_if (st_cmp os_isnt (se_call (OwnM.own o__law_first_of (by rfl) (by rfl) (Nat.le_of_ble_eq_true (by rfl)) (by exact ⟨rfl, rfl, rfl, rfl, rfl⟩)) (sa_cons (se_ix xs_ix (se_var 1 (by rfl) (by first | exact Or.inl rfl | exact Or.inr (Or.inl rfl) | exact Or.inr (Or.inr rfl)) (by rfl) (by rfl)) se_int (fun _ _ => rfl)) (sa_cons (se_ix xs_ix (se_ix xs_ix (se_var 0 (by rfl) (by first | exact Or.inl rfl | exact Or.inr (Or.inl rfl) | exact Or.inr (Or.inr rfl)) (by rfl) (by rfl)) (se_ix xs_ix (se_var 1 (by rfl) (by first | exact Or.inl rfl | exact Or.inr (Or.inl rfl) | exact Or.inr (Or.inr rfl)) (by rfl) (by rfl)) se_int (fun _ _ => rfl)) (fun _ _ => rfl)) se_int (fun _ _ => rfl)) sa_nil (fun _ => by rfl)) (fun _ => by rfl)) (fun _ => by rfl) (fun _ => by rfl)) se_non (by rfl)) (ssl_one (ss_ret se_non)) ssl_nil)
  (ssl_one (ss_ret (se_ix xs_ix (se_ix xs_ix (se_var 0 (by rfl) (by first | exact Or.inl rfl | exact Or.inr (Or.inl rfl) | exact Or.inr (Or.inr rfl)) (by rfl) (by rfl)) (se_ix xs_ix (se_var 1 (by rfl) (by first | exact Or.inl rfl | exact Or.inr (Or.inl rfl) | exact Or.inr (Or.inr rfl)) (by rfl) (by rfl)) se_int (fun _ _ => rfl)) (fun _ _ => rfl)) se_int (fun _ _ => rfl))))))
theorem own__law_waits {P : Program} {w : World} {K : PySem.W.Frag} {mg : Str → Option Value} {base : Heap} {fa : Addr} {fd : FuncData} (F : Fun K "_law_waits" "_law_waits" s__law_waits fa fd) (hm : mg "_law_waits" = some (.ref fa)) (o__law_ended : OwnM P w K mg base 1 "_law_ended" g__law_ended) (o__law_first_of : OwnM P w K mg base 1 "_law_first_of" g__law_first_of) : OwnM P w K mg base 2 "_law_waits" g__law_waits :=
  ownM F hm (F.binds (ps := ["code", "state"]) fun _ _ _ _ _ _ us hl => match us, hl with | [_, _], _ => rfl) sc__law_waits (ss__law_waits o__law_ended o__law_first_of) (fun _ _ _ h => gB_len _ _ _ h) (fun _ _ _ _ h => gB_gives _ _ _ _ h)
abbrev N__law_can_act : List Str := ["code", "state"]
theorem sc__law_can_act : FnScope N__law_can_act ["code", "state"] (defScope s__law_can_act) := ⟨rfl, rfl, rfl, by decide +kernel, rfl, by decide +kernel, by decide +kernel⟩
noncomputable def b__law_can_act : Es :=
  (xRet (fAnd (fNot (fCall g__law_ended (aCons (fVar 0) (aCons (fVar 1) aNil)))) (fBin vIs (fCall g__law_waits (aCons (fVar 0) (aCons (fVar 1) aNil))) (fC .non))))
noncomputable def g__law_can_act : Fn := gB b__law_can_act N__law_can_act 2
theorem gd__law_can_act (a0 a1 : Val) (st : Store) : g__law_can_act [a0, a1] st = fin3 st (b__law_can_act [some a0, some a1] st) := gB_eq rfl
theorem ss__law_can_act {P : Program} {w : World} {K : PySem.W.Frag} {mg : Str → Option Value} {base : Heap} (o__law_ended : OwnM P w K mg base 1 "_law_ended" g__law_ended) (o__law_waits : OwnM P w K mg base 2 "_law_waits" g__law_waits) :
  SSs ⟨P, w, K, mg, base, N__law_can_act, defScope s__law_can_act, fun _ => true, 2, sc__law_can_act.nd⟩ (defBody s__law_can_act) b__law_can_act :=
  (ssl_one (ss_ret (se_and (se_not (se_call (OwnM.own o__law_ended (by rfl) (by rfl) (Nat.le_of_ble_eq_true (by rfl)) (by exact ⟨rfl, rfl, rfl, rfl, rfl⟩)) (sa_cons (se_var 0 (by rfl) (by first | exact Or.inl rfl | exact Or.inr (Or.inl rfl) | exact Or.inr (Or.inr rfl)) (by rfl) (by rfl)) (sa_cons (se_var 1 (by rfl) (by first | exact Or.inl rfl | exact Or.inr (Or.inl rfl) | exact Or.inr (Or.inr rfl)) (by rfl) (by rfl)) sa_nil (fun _ => by rfl)) (fun _ => by rfl)) (fun _ => by rfl) (fun _ => by rfl))) (se_one (se_cmp os_is (se_call (OwnM.own o__law_waits (by rfl) (by rfl) (Nat.le_of_ble_eq_true (by rfl)) (by exact ⟨rfl, rfl, rfl, rfl, rfl⟩)) (sa_cons (se_var 0 (by rfl) (by first | exact Or.inl rfl | exact Or.inr (Or.inl rfl) | exact Or.inr (Or.inr rfl)) (by rfl) (by rfl)) (sa_cons (se_var 1 (by rfl) (by first | exact Or.inl rfl | exact Or.inr (Or.inl rfl) | exact Or.inr (Or.inr rfl)) (by rfl) (by rfl)) sa_nil (fun _ => by rfl)) (fun _ => by rfl)) (fun _ => by rfl) (fun _ => by rfl)) se_non (by rfl))))))
theorem own__law_can_act {P : Program} {w : World} {K : PySem.W.Frag} {mg : Str → Option Value} {base : Heap} {fa : Addr} {fd : FuncData} (F : Fun K "_law_can_act" "_law_can_act" s__law_can_act fa fd) (hm : mg "_law_can_act" = some (.ref fa)) (o__law_ended : OwnM P w K mg base 1 "_law_ended" g__law_ended) (o__law_waits : OwnM P w K mg base 2 "_law_waits" g__law_waits) : OwnM P w K mg base 3 "_law_can_act" g__law_can_act :=
  ownM F hm (F.binds (ps := ["code", "state"]) fun _ _ _ _ _ _ us hl => match us, hl with | [_, _], _ => rfl) sc__law_can_act (ss__law_can_act o__law_ended o__law_waits) (fun _ _ _ h => gB_len _ _ _ h) (fun _ _ _ _ h => gB_gives _ _ _ _ h)
abbrev N_law : List Str := ["script", "turn", "programs", "process", "code", "k", "state", "told", "due", "found"]
theorem sc_law : FnScope N_law ["script"] (defScope s_law) := ⟨rfl, rfl, rfl, by decide +kernel, rfl, by decide +kernel, by decide +kernel⟩
noncomputable def b_law_1 : Es :=
  (xSeq (xSet (.one 6) (fCall g__law_state (aCons (fCall g__law_number (aCons (fVar 0) (aCons (fBin vAdd (fBin vAdd (fBin vAdd (fC (.int 3)) (fBin vMul (fC (.int 200)) (fVar 1))) (fBin vMul (fC (.int 40)) (fVar 3))) (fVar 5)) aNil))) (aCons (fVar 4) (aCons (fCall gLen (aCons (fVar 2) aNil)) (aCons (fVar 3) aNil))))))
  (xSeq (xSet (.one 7) (fLst (aCons (fCall g_is_ended (aCons (fVar 4) (aCons (fVar 6) aNil))) (aCons (fCall g_can_act (aCons (fVar 4) (aCons (fVar 6) aNil))) (aCons (fCall g_waits_for (aCons (fVar 4) (aCons (fVar 6) aNil))) aNil)))))
  (xSeq (xIf (tV (fBin vNe (fVar 7) (fLst (aCons (fCall g__law_ended (aCons (fVar 4) (aCons (fVar 6) aNil))) (aCons (fCall g__law_can_act (aCons (fVar 4) (aCons (fVar 6) aNil))) (aCons (fCall g__law_waits (aCons (fVar 4) (aCons (fVar 6) aNil))) aNil)))))) (xRet (fC (.bl false))) xNil)
  (xSeq (xIf (tOr2 (tNot2 (tV (fCall gIsi (aCons (fIx vIx (fVar 7) (fC (.int 0))) (aCons (fC (.ty "bool")) aNil))))) (tNot2 (tV (fCall gIsi (aCons (fIx vIx (fVar 7) (fC (.int 1))) (aCons (fC (.ty "bool")) aNil)))))) (xRet (fC (.bl false))) xNil)
  (xIf (tV (fIx vIx (fVar 7) (fC (.int 1)))) (xSeq (xSet (.one 8) (fCall g__law_act (aCons (fVar 4) (aCons (fVar 3) (aCons (fVar 6) aNil)))))
  (xSeq (xSet (.one 9) (fCall g_act (aCons (fVar 4) (aCons (fVar 3) (aCons (fVar 6) aNil)))))
  (xIf (tOr2 (tNot2 (tV (fCall gIsi (aCons (fVar 9) (aCons (fC (.ty "tuple")) aNil))))) (tV (fBin vNe (fVar 9) (fTup (aCons (fIx vIx (fVar 8) (fC (.int 0))) (aCons (fIx vIx (fVar 8) (fC (.int 1))) aNil)))))) (xRet (fC (.bl false))) xNil))) xNil)))))
noncomputable def b_law_2 : Es :=
  (xSeq (xSet (.one 4) (fIx vIx (fVar 2) (fVar 3)))
  (xFor (.one 5) (iRange1 (aCons (fC (.int 40)) aNil)) b_law_1))
noncomputable def b_law_3 : Es :=
  (xSeq (xSet (.one 2) (fCall g__law_programs (aCons (fCall g__law_number (aCons (fVar 0) (aCons (fVar 1) aNil))) (aCons (fC (.int 2)) (aCons (fC (.int 5)) (aCons (fC (.int 10)) aNil))))))
  (xFor (.one 3) (iRange1 (aCons (fCall gLen (aCons (fVar 2) aNil)) aNil)) b_law_2))
noncomputable def b_law : Es :=
  (xSeq (xIf (tOr2 (tV (fBin vNe (fC (.tup [(.int 0), (.tup [(.int 0), (.int 0), (.int 0), (.int 0)]), (.tup [.non, .non, .non]), .non, (.tup []), (.int 0), (.int 0)])) (fCall g__law_first aNil))) (tV (fBin vNe (fC (.int 40)) (fC (.int 40))))) (xRet (fC (.bl false))) xNil)
  (xSeq (xFor (.one 1) (iRange1 (aCons (fC (.int 3)) aNil)) b_law_3)
  (xRet (fC (.bl true)))))
noncomputable def g_law : Fn := gB b_law N_law 1
theorem gd_law (a0 : Val) (st : Store) : g_law [a0] st = fin3 st (b_law [some a0, none, none, none, none, none, none, none, none, none] st) := gB_eq rfl
theorem ss_law {P : Program} {w : World} {K : PySem.W.Frag} {mg : Str → Option Value} {base : Heap} (v_FIRST : HasC K mg "FIRST" (.tup [(.int 0), (.tup [(.int 0), (.int 0), (.int 0), (.int 0)]), (.tup [.non, .non, .non]), .non, (.tup []), (.int 0), (.int 0)])) (o__law_first : OwnM P w K mg base 1 "_law_first" g__law_first) (c_FUEL : ∃ t, mg "FUEL" = some (.int 40 t)) (z_range : mg "range" = none) (o__law_programs : OwnM P w K mg base 5 "_law_programs" g__law_programs) (o__law_number : OwnM P w K mg base 1 "_law_number" g__law_number) (z_len : mg "len" = none) (o__law_state : OwnM P w K mg base 3 "_law_state" g__law_state) (o_is_ended : OwnM P w K mg base 1 "is_ended" g_is_ended) (o_can_act : OwnM P w K mg base 4 "can_act" g_can_act) (o_waits_for : OwnM P w K mg base 3 "waits_for" g_waits_for) (o__law_ended : OwnM P w K mg base 1 "_law_ended" g__law_ended) (o__law_can_act : OwnM P w K mg base 3 "_law_can_act" g__law_can_act) (o__law_waits : OwnM P w K mg base 2 "_law_waits" g__law_waits) (z_bool : mg "bool" = none) (z_isinstance : mg "isinstance" = none) (o__law_act : OwnM P w K mg base 2 "_law_act" g__law_act) (o_act : OwnM P w K mg base 4 "act" g_act) (z_tuple : mg "tuple" = none) :
  SSs ⟨P, w, K, mg, base, N_law, defScope s_law, fun _ => true, 5, sc_law.nd⟩ (defBody s_law) b_law :=
  (ssl_cons (ss_if (SW.st (sw_or (st_cmp os_ne (se_con (by rfl) (by exact v_FIRST) (by rfl)) (se_call0 (OwnM.own o__law_first (by rfl) (by rfl) (Nat.le_of_ble_eq_true (by rfl)) (by exact ⟨rfl, rfl, rfl, rfl, rfl⟩))) (by rfl)) (sw_or1 (st_cmp os_ne (se_glob (v := .int 40) (u := .int 40) (z := .int 40 c_FUEL.choose) (by rfl) (by exact c_FUEL.choose_spec) ⟨_, rfl⟩ (fun _ _ => .int _) (by rfl)) se_int (by rfl))))) (ssl_one (ss_ret se_bl)) ssl_nil)
  (ssl_cons (ss_for (tg_one 1 (by rfl) (by first | exact Or.inl rfl | exact Or.inr rfl) (by rfl)) (si_range1 (by exact ⟨rfl, rfl, by decide, z_range, by first | rfl | decide +kernel⟩) (sa_cons se_int sa_nil (fun _ => by rfl)) (fun _ => by rfl)) (ssl_cons (ss_set (tg_one 2 (by rfl) (by first | exact Or.inl rfl | exact Or.inr rfl) (by rfl)) (se_call (OwnM.own o__law_programs (by rfl) (by rfl) (Nat.le_of_ble_eq_true (by rfl)) (by exact ⟨rfl, rfl, rfl, rfl, rfl⟩)) (sa_cons (se_call (OwnM.own o__law_number (by rfl) (by rfl) (Nat.le_of_ble_eq_true (by rfl)) (by exact ⟨rfl, rfl, rfl, rfl, rfl⟩)) (sa_cons (se_var 0 (by rfl) (by first | exact Or.inl rfl | exact Or.inr (Or.inl rfl) | exact Or.inr (Or.inr rfl)) (by rfl) (by rfl)) (sa_cons (se_var 1 (by rfl) (by first | exact Or.inl rfl | exact Or.inr (Or.inl rfl) | exact Or.inr (Or.inr rfl)) (by rfl) (by rfl)) sa_nil (fun _ => by rfl)) (fun _ => by rfl)) (fun _ => by rfl) (fun _ => by rfl)) (sa_cons se_int (sa_cons se_int (sa_cons se_int sa_nil (fun _ => by rfl)) (fun _ => by rfl)) (fun _ => by rfl)) (fun _ => by rfl)) (fun _ => by rfl) (fun _ => by rfl)) (fun _ _ => by rfl) (fun _ => by rfl) (fun _ => by rfl))
  (ssl_one (ss_for (tg_one 3 (by rfl) (by first | exact Or.inl rfl | exact Or.inr rfl) (by rfl)) (si_range1 (by exact ⟨rfl, rfl, by decide, z_range, by first | rfl | decide +kernel⟩) (sa_cons (se_builtin (by exact ⟨rfl, rfl, by decide, z_len, by first | rfl | decide +kernel⟩) cs_len (sa_cons (se_var 2 (by rfl) (by first | exact Or.inl rfl | exact Or.inr (Or.inl rfl) | exact Or.inr (Or.inr rfl)) (by rfl) (by rfl)) sa_nil (fun _ => by rfl)) (fun _ => by rfl) (fun _ => by rfl)) sa_nil (fun _ => by rfl)) (fun _ => by rfl)) (ssl_cons (ss_set (tg_one 4 (by rfl) (by first | exact Or.inl rfl | exact Or.inr rfl) (by rfl)) (se_ix xs_ix (se_var 2 (by rfl) (by first | exact Or.inl rfl | exact Or.inr (Or.inl rfl) | exact Or.inr (Or.inr rfl)) (by rfl) (by rfl)) (se_var 3 (by rfl) (by first | exact Or.inl rfl | exact Or.inr (Or.inl rfl) | exact Or.inr (Or.inr rfl)) (by rfl) (by rfl)) (fun _ _ => rfl)) (fun _ _ => by rfl) (fun _ => by rfl) (fun _ => by rfl))
  (ssl_one (ss_for (tg_one 5 (by rfl) (by first | exact Or.inl rfl | exact Or.inr rfl) (by rfl)) (si_range1 (by exact ⟨rfl, rfl, by decide, z_range, by first | rfl | decide +kernel⟩) (sa_cons se_int sa_nil (fun _ => by rfl)) (fun _ => by rfl)) (ssl_cons (ss_set (tg_one 6 (by rfl) (by first | exact Or.inl rfl | exact Or.inr rfl) (by rfl)) (se_call (OwnM.own o__law_state (by rfl) (by rfl) (Nat.le_of_ble_eq_true (by rfl)) (by exact ⟨rfl, rfl, rfl, rfl, rfl⟩)) (sa_cons (se_call (OwnM.own o__law_number (by rfl) (by rfl) (Nat.le_of_ble_eq_true (by rfl)) (by exact ⟨rfl, rfl, rfl, rfl, rfl⟩)) (sa_cons (se_var 0 (by rfl) (by first | exact Or.inl rfl | exact Or.inr (Or.inl rfl) | exact Or.inr (Or.inr rfl)) (by rfl) (by rfl)) (sa_cons (se_op os_add (se_op os_add (se_op os_add se_int (se_op os_mul se_int (se_var 1 (by rfl) (by first | exact Or.inl rfl | exact Or.inr (Or.inl rfl) | exact Or.inr (Or.inr rfl)) (by rfl) (by rfl)))) (se_op os_mul se_int (se_var 3 (by rfl) (by first | exact Or.inl rfl | exact Or.inr (Or.inl rfl) | exact Or.inr (Or.inr rfl)) (by rfl) (by rfl)))) (se_var 5 (by rfl) (by first | exact Or.inl rfl | exact Or.inr (Or.inl rfl) | exact Or.inr (Or.inr rfl)) (by rfl) (by rfl))) sa_nil (fun _ => by rfl)) (fun _ => by rfl)) (fun _ => by rfl) (fun _ => by rfl)) (sa_cons (se_var 4 (by rfl) (by first | exact Or.inl rfl | exact Or.inr (Or.inl rfl) | exact Or.inr (Or.inr rfl)) (by rfl) (by rfl)) (sa_cons (se_builtin (by exact ⟨rfl, rfl, by decide, z_len, by first | rfl | decide +kernel⟩) cs_len (sa_cons (se_var 2 (by rfl) (by first | exact Or.inl rfl | exact Or.inr (Or.inl rfl) | exact Or.inr (Or.inr rfl)) (by rfl) (by rfl)) sa_nil (fun _ => by rfl)) (fun _ => by rfl) (fun _ => by rfl)) (sa_cons (se_var 3 (by rfl) (by first | exact Or.inl rfl | exact Or.inr (Or.inl rfl) | exact Or.inr (Or.inr rfl)) (by rfl) (by rfl)) sa_nil (fun _ => by rfl)) (fun _ => by rfl)) (fun _ => by rfl)) (fun _ => by rfl)) (fun _ => by rfl) (fun _ => by rfl)) (fun _ _ => by rfl) (fun _ => by rfl) (fun _ => by rfl))
  (ssl_cons (ss_set (tg_one 7 (by rfl) (by first | exact Or.inl rfl | exact Or.inr rfl) (by rfl)) (se_lst (sa_cons (se_call (OwnM.own o_is_ended (by rfl) (by rfl) (Nat.le_of_ble_eq_true (by rfl)) (by exact ⟨rfl, rfl, rfl, rfl, rfl⟩)) (sa_cons (se_var 4 (by rfl) (by first | exact Or.inl rfl | exact Or.inr (Or.inl rfl) | exact Or.inr (Or.inr rfl)) (by rfl) (by rfl)) (sa_cons (se_var 6 (by rfl) (by first | exact Or.inl rfl | exact Or.inr (Or.inl rfl) | exact Or.inr (Or.inr rfl)) (by rfl) (by rfl)) sa_nil (fun _ => by rfl)) (fun _ => by rfl)) (fun _ => by rfl) (fun _ => by rfl)) (sa_cons (se_call (OwnM.own o_can_act (by rfl) (by rfl) (Nat.le_of_ble_eq_true (by rfl)) (by exact ⟨rfl, rfl, rfl, rfl, rfl⟩)) (sa_cons (se_var 4 (by rfl) (by first | exact Or.inl rfl | exact Or.inr (Or.inl rfl) | exact Or.inr (Or.inr rfl)) (by rfl) (by rfl)) (sa_cons (se_var 6 (by rfl) (by first | exact Or.inl rfl | exact Or.inr (Or.inl rfl) | exact Or.inr (Or.inr rfl)) (by rfl) (by rfl)) sa_nil (fun _ => by rfl)) (fun _ => by rfl)) (fun _ => by rfl) (fun _ => by rfl)) (sa_cons (se_call (OwnM.own o_waits_for (by rfl) (by rfl) (Nat.le_of_ble_eq_true (by rfl)) (by exact ⟨rfl, rfl, rfl, rfl, rfl⟩)) (sa_cons (se_var 4 (by rfl) (by first | exact Or.inl rfl | exact Or.inr (Or.inl rfl) | exact Or.inr (Or.inr rfl)) (by rfl) (by rfl)) (sa_cons (se_var 6 (by rfl) (by first | exact Or.inl rfl | exact Or.inr (Or.inl rfl) | exact Or.inr (Or.inr rfl)) (by rfl) (by rfl)) sa_nil (fun _ => by rfl)) (fun _ => by rfl)) (fun _ => by rfl) (fun _ => by rfl)) sa_nil (fun _ => by rfl)) (fun _ => by rfl)) (fun _ => by rfl))) (fun _ _ => by rfl) (fun _ => by rfl) (fun _ => by rfl))
  (ssl_cons (ss_if (st_cmp os_ne (se_var 7 (by rfl) (by first | exact Or.inl rfl | exact Or.inr (Or.inl rfl) | exact Or.inr (Or.inr rfl)) (by rfl) (by rfl)) (se_lst (sa_cons (se_call (OwnM.own o__law_ended (by rfl) (by rfl) (Nat.le_of_ble_eq_true (by rfl)) (by exact ⟨rfl, rfl, rfl, rfl, rfl⟩)) (sa_cons (se_var 4 (by rfl) (by first | exact Or.inl rfl | exact Or.inr (Or.inl rfl) | exact Or.inr (Or.inr rfl)) (by rfl) (by rfl)) (sa_cons (se_var 6 (by rfl) (by first | exact Or.inl rfl | exact Or.inr (Or.inl rfl) | exact Or.inr (Or.inr rfl)) (by rfl) (by rfl)) sa_nil (fun _ => by rfl)) (fun _ => by rfl)) (fun _ => by rfl) (fun _ => by rfl)) (sa_cons (se_call (OwnM.own o__law_can_act (by rfl) (by rfl) (Nat.le_of_ble_eq_true (by rfl)) (by exact ⟨rfl, rfl, rfl, rfl, rfl⟩)) (sa_cons (se_var 4 (by rfl) (by first | exact Or.inl rfl | exact Or.inr (Or.inl rfl) | exact Or.inr (Or.inr rfl)) (by rfl) (by rfl)) (sa_cons (se_var 6 (by rfl) (by first | exact Or.inl rfl | exact Or.inr (Or.inl rfl) | exact Or.inr (Or.inr rfl)) (by rfl) (by rfl)) sa_nil (fun _ => by rfl)) (fun _ => by rfl)) (fun _ => by rfl) (fun _ => by rfl)) (sa_cons (se_call (OwnM.own o__law_waits (by rfl) (by rfl) (Nat.le_of_ble_eq_true (by rfl)) (by exact ⟨rfl, rfl, rfl, rfl, rfl⟩)) (sa_cons (se_var 4 (by rfl) (by first | exact Or.inl rfl | exact Or.inr (Or.inl rfl) | exact Or.inr (Or.inr rfl)) (by rfl) (by rfl)) (sa_cons (se_var 6 (by rfl) (by first | exact Or.inl rfl | exact Or.inr (Or.inl rfl) | exact Or.inr (Or.inr rfl)) (by rfl) (by rfl)) sa_nil (fun _ => by rfl)) (fun _ => by rfl)) (fun _ => by rfl) (fun _ => by rfl)) sa_nil (fun _ => by rfl)) (fun _ => by rfl)) (fun _ => by rfl))) (by rfl)) (ssl_one (ss_ret se_bl)) ssl_nil)
  (ssl_cons (ss_if (SW.st (sw_or (st_not (st_val (se_builtin (by exact ⟨rfl, rfl, by decide, z_isinstance, by first | rfl | decide +kernel⟩) cs_isi (sa_cons (se_ix xs_ix (se_var 7 (by rfl) (by first | exact Or.inl rfl | exact Or.inr (Or.inl rfl) | exact Or.inr (Or.inr rfl)) (by rfl) (by rfl)) se_int (fun _ _ => rfl)) (sa_cons (se_tyname (by exact ⟨rfl, rfl, by decide, z_bool, by first | rfl | decide +kernel⟩)) sa_nil (fun _ => by rfl)) (fun _ => by rfl)) (fun _ => by rfl) (fun _ => by rfl)) (fun _ _ => rfl))) (sw_or1 (st_not (st_val (se_builtin (by exact ⟨rfl, rfl, by decide, z_isinstance, by first | rfl | decide +kernel⟩) cs_isi (sa_cons (se_ix xs_ix (se_var 7 (by rfl) (by first | exact Or.inl rfl | exact Or.inr (Or.inl rfl) | exact Or.inr (Or.inr rfl)) (by rfl) (by rfl)) se_int (fun _ _ => rfl)) (sa_cons (se_tyname (by exact ⟨rfl, rfl, by decide, z_bool, by first | rfl | decide +kernel⟩)) sa_nil (fun _ => by rfl)) (fun _ => by rfl)) (fun _ => by rfl) (fun _ => by rfl)) (fun _ _ => rfl)))))) (ssl_one (ss_ret se_bl)) ssl_nil)
  (ssl_one (ss_if (st_val (se_ix xs_ix (se_var 7 (by rfl) (by first | exact Or.inl rfl | exact Or.inr (Or.inl rfl) | exact Or.inr (Or.inr rfl)) (by rfl) (by rfl)) se_int (fun _ _ => rfl)) (fun _ _ => rfl)) (ssl_cons (ss_set (tg_one 8 (by rfl) (by first | exact Or.inl rfl | exact Or.inr rfl) (by rfl)) (se_call (OwnM.own o__law_act (by rfl) (by rfl) (Nat.le_of_ble_eq_true (by rfl)) (by exact ⟨rfl, rfl, rfl, rfl, rfl⟩)) (sa_cons (se_var 4 (by rfl) (by first | exact Or.inl rfl | exact Or.inr (Or.inl rfl) | exact Or.inr (Or.inr rfl)) (by rfl) (by rfl)) (sa_cons (se_var 3 (by rfl) (by first | exact Or.inl rfl | exact Or.inr (Or.inl rfl) | exact Or.inr (Or.inr rfl)) (by rfl) (by rfl)) (sa_cons (se_var 6 (by rfl) (by first | exact Or.inl rfl | exact Or.inr (Or.inl rfl) | exact Or.inr (Or.inr rfl)) (by rfl) (by rfl)) sa_nil (fun _ => by rfl)) (fun _ => by rfl)) (fun _ => by rfl)) (fun _ => by rfl) (fun _ => by rfl)) (fun _ _ => by rfl) (fun _ => by rfl) (fun _ => by rfl))
  (ssl_cons (ss_set (tg_one 9 (by rfl) (by first | exact Or.inl rfl | exact Or.inr rfl) (by rfl)) (se_call (OwnM.own o_act (by rfl) (by rfl) (Nat.le_of_ble_eq_true (by rfl)) (by exact ⟨rfl, rfl, rfl, rfl, rfl⟩)) (sa_cons (se_var 4 (by rfl) (by first | exact Or.inl rfl | exact Or.inr (Or.inl rfl) | exact Or.inr (Or.inr rfl)) (by rfl) (by rfl)) (sa_cons (se_var 3 (by rfl) (by first | exact Or.inl rfl | exact Or.inr (Or.inl rfl) | exact Or.inr (Or.inr rfl)) (by rfl) (by rfl)) (sa_cons (se_var 6 (by rfl) (by first | exact Or.inl rfl | exact Or.inr (Or.inl rfl) | exact Or.inr (Or.inr rfl)) (by rfl) (by rfl)) sa_nil (fun _ => by rfl)) (fun _ => by rfl)) (fun _ => by rfl)) (fun _ => by rfl) (fun _ => by rfl)) (fun _ _ => by rfl) (fun _ => by rfl) (fun _ => by rfl))
  (ssl_one (ss_if (SW.st (sw_or (st_not (st_val (se_builtin (by exact ⟨rfl, rfl, by decide, z_isinstance, by first | rfl | decide +kernel⟩) cs_isi (sa_cons (se_var 9 (by rfl) (by first | exact Or.inl rfl | exact Or.inr (Or.inl rfl) | exact Or.inr (Or.inr rfl)) (by rfl) (by rfl)) (sa_cons (se_tyname (by exact ⟨rfl, rfl, by decide, z_tuple, by first | rfl | decide +kernel⟩)) sa_nil (fun _ => by rfl)) (fun _ => by rfl)) (fun _ => by rfl) (fun _ => by rfl)) (fun _ _ => rfl))) (sw_or1 (st_cmp os_ne (se_var 9 (by rfl) (by first | exact Or.inl rfl | exact Or.inr (Or.inl rfl) | exact Or.inr (Or.inr rfl)) (by rfl) (by rfl)) (se_tup (sa_cons (se_ix xs_ix (se_var 8 (by rfl) (by first | exact Or.inl rfl | exact Or.inr (Or.inl rfl) | exact Or.inr (Or.inr rfl)) (by rfl) (by rfl)) se_int (fun _ _ => rfl)) (sa_cons (se_ix xs_ix (se_var 8 (by rfl) (by first | exact Or.inl rfl | exact Or.inr (Or.inl rfl) | exact Or.inr (Or.inr rfl)) (by rfl) (by rfl)) se_int (fun _ _ => rfl)) sa_nil (fun _ => by rfl)) (fun _ => by rfl))) (by rfl))))) (ssl_one (ss_ret se_bl)) ssl_nil)))) ssl_nil)))))) (fun _ _ => rfl)))) (fun _ _ => rfl)))) (fun _ _ => rfl))
  (ssl_one (ss_ret se_bl))))
theorem own_law {P : Program} {w : World} {K : PySem.W.Frag} {mg : Str → Option Value} {base : Heap} {fa : Addr} {fd : FuncData} (F : Fun K "law" "law" s_law fa fd) (hm : mg "law" = some (.ref fa)) (v_FIRST : HasC K mg "FIRST" (.tup [(.int 0), (.tup [(.int 0), (.int 0), (.int 0), (.int 0)]), (.tup [.non, .non, .non]), .non, (.tup []), (.int 0), (.int 0)])) (o__law_first : OwnM P w K mg base 1 "_law_first" g__law_first) (c_FUEL : ∃ t, mg "FUEL" = some (.int 40 t)) (z_range : mg "range" = none) (o__law_programs : OwnM P w K mg base 5 "_law_programs" g__law_programs) (o__law_number : OwnM P w K mg base 1 "_law_number" g__law_number) (z_len : mg "len" = none) (o__law_state : OwnM P w K mg base 3 "_law_state" g__law_state) (o_is_ended : OwnM P w K mg base 1 "is_ended" g_is_ended) (o_can_act : OwnM P w K mg base 4 "can_act" g_can_act) (o_waits_for : OwnM P w K mg base 3 "waits_for" g_waits_for) (o__law_ended : OwnM P w K mg base 1 "_law_ended" g__law_ended) (o__law_can_act : OwnM P w K mg base 3 "_law_can_act" g__law_can_act) (o__law_waits : OwnM P w K mg base 2 "_law_waits" g__law_waits) (z_bool : mg "bool" = none) (z_isinstance : mg "isinstance" = none) (o__law_act : OwnM P w K mg base 2 "_law_act" g__law_act) (o_act : OwnM P w K mg base 4 "act" g_act) (z_tuple : mg "tuple" = none) : OwnM P w K mg base 6 "law" g_law :=
  ownM F hm (F.binds (ps := ["script"]) fun _ _ _ _ _ _ us hl => match us, hl with | [_], _ => rfl) sc_law (ss_law v_FIRST o__law_first c_FUEL z_range o__law_programs o__law_number z_len o__law_state o_is_ended o_can_act o_waits_for o__law_ended o__law_can_act o__law_waits z_bool z_isinstance o__law_act o_act z_tuple) (fun _ _ _ h => gB_len _ _ _ h) (fun _ _ _ _ h => gB_gives _ _ _ _ h)
end K02

set_option Elab.async false
set_option linter.all false
set_option maxRecDepth 100000
set_option maxHeartbeats 4000000
/-! what the law draws: numbers, crowds, instructions, programs -/
namespace K02
open PySem L2 DD
section
variable {st : Store} {d : Val} {c n : Nat}
theorem n_take {i : Nat} {x s : Int} (h : st[i]? = some (.list [.int x])) (h0 : 0 < s) (h1 : s < 1073741824) : g__law_take [.ref i, .int s] st = some (.int (x % s), st.set i (.list [.int (x / s)])) := by
  rw [gd__law_take]
  have e0 : atI [Val.int x] 0 = some (.int x) := rfl
  have e1 : ixN 1 0 = some 0 := rfl
  simp only [b__law_take, ev_bin, ev_ix, ev_and, ev_or, ev_not, ev_neg, ev_tV, ev_tand, ev_tor, ev_tnot, ev_if, ev_chain, ev_acons, ev_tup, ev_lst, ev_new, ev_call, ev_osome, ev_sl, ev_meth, ev_kget, ev_comp, ev_compN, ev_iseq, ev_range1, ev_seq, ev_set, ev_drop, ev_ret, ev_xif, ev_for, fVar, fC, aNil, oNone, xNil, xRetN, fDict, eT, bind_ite, fin3_rt, fin3_nx, fin3_ite, Option.bind_some, Option.bind_none, List.getElem?_cons_zero, List.getElem?_cons_succ, List.set_cons_zero, List.set_cons_succ, vAdd, vSub, vMul, vMod, vFdiv, vPow, vLt, vLe, vGt, vGe, vEq, vNe, vEqB, vIs, vIsnt, DD.isN, vIx_tup, vIx_lst, vIx_frz, gLen_tup, gLen_lst, gLen_frz, gTuple_tup, gTuple_lst, gList_tup, gList_lst, gInt_int, gInt_bl, vSl, wipeE, if_true, if_false, Bool.false_eq_true, decide_eq_true_eq, List.length_cons, List.length_nil, finB_0, cl_non, cl_bl, cl_int, cl_str, cl_tup, cl_lst, cls_nil, cls_cons, gLen_str, ev_zip, ev_enum, ev_text, ev_range2, ev_sub, ev_dput, walked_tup, walked_lst, walked_str, cutL_1, Bool.and_true, Bool.true_and, Bool.not_true, Bool.not_false, vIx_ref h, e0, h0, h1, h, e1, and_self]
  exact finB_s rfl cl_int
theorem n_take_last {x s : Int} (h0 : 0 < s) (h1 : s < 1073741824) : g__law_take [.ref st.length, .int s] (st ++ [.list [.int x]]) = some (.int (x % s), st ++ [.list [.int (x / s)]]) := by
  rw [n_take getElem?_append_self h0 h1, set_append_self]
theorem num_tail {v : Val} {cell k : Int} {l : List Val} (hg : gLen [v] st = some (.int l.length, st)) : ∃ y, fin3 st ((xSeq (xIf (tV (fBin vLt (fVar 2) (fC (.int 0)))) (xSet (.one 2) (fBin vSub (fC (.int 1)) (fBin vMul (fC (.int 2)) (fVar 2)))) xNil)
  (xSeq (xIf (tAnd2 (tV (fBin vGe (fVar 2) (fBin vPow (fC (.int 10)) (fC (.int 9))))) (tV (fBin vLt (fVar 1) (fCall gLen (aCons (fVar 0) aNil))))) (xRet (fVar 2)) xNil)
  (xSeq (xSet (.one 3) (fBin vMod (fCall gInt (aCons (fBin vAdd (fBin vMul (fBin vAdd (fVar 2) (fC (.int 7))) (fC (.int 48271))) (fBin vMul (fBin vAdd (fVar 1) (fC (.int 3))) (fC (.int 69621)))) aNil)) (fC (.int 2147483647))))
  (xSeq (xSet (.one 4) (fBin vMod (fCall gInt (aCons (fBin vAdd (fBin vAdd (fBin vAdd (fBin vMul (fVar 3) (fVar 3)) (fBin vMul (fC (.int 16807)) (fVar 3))) (fBin vMul (fBin vAdd (fVar 2) (fC (.int 1))) (fC (.int 40692)))) (fVar 1)) aNil)) (fC (.int 2147483399))))
  (xSeq (xSet (.one 5) (fBin vMod (fCall gInt (aCons (fBin vAdd (fBin vMul (fVar 4) (fVar 4)) (fVar 3)) aNil)) (fC (.int 2147483629))))
  (xRet (fBin vMod (fCall gInt (aCons (fBin vAdd (fBin vAdd (fBin vMul (fVar 5) (fC (.int 2147483399))) (fBin vMul (fVar 4) (fC (.int 31)))) (fVar 2)) aNil)) (fC (.int 4611686014132420609))))))))) [some v, some (.int k), some (.int cell), none, none, none] st) = some (.int y, st) := by
  have p0 : Int.natAbs 10 = 10 := rfl
  have m1 : ∀ a : Int, (-18446744073709551616 < a % 2147483647) = True := fun a => by simp only [eq_iff_iff, iff_true]; omega
  have m2 : ∀ a : Int, (a % 2147483647 < 18446744073709551616) = True := fun a => by simp only [eq_iff_iff, iff_true]; omega
  have m3 : ∀ a : Int, (-18446744073709551616 < a % 2147483399) = True := fun a => by simp only [eq_iff_iff, iff_true]; omega
  have m4 : ∀ a : Int, (a % 2147483399 < 18446744073709551616) = True := fun a => by simp only [eq_iff_iff, iff_true]; omega
  have main : ∀ cell : Int, ∃ y, fin3 st ((xSeq (xIf (tAnd2 (tV (fBin vGe (fVar 2) (fBin vPow (fC (.int 10)) (fC (.int 9))))) (tV (fBin vLt (fVar 1) (fCall gLen (aCons (fVar 0) aNil))))) (xRet (fVar 2)) xNil)
  (xSeq (xSet (.one 3) (fBin vMod (fCall gInt (aCons (fBin vAdd (fBin vMul (fBin vAdd (fVar 2) (fC (.int 7))) (fC (.int 48271))) (fBin vMul (fBin vAdd (fVar 1) (fC (.int 3))) (fC (.int 69621)))) aNil)) (fC (.int 2147483647))))
  (xSeq (xSet (.one 4) (fBin vMod (fCall gInt (aCons (fBin vAdd (fBin vAdd (fBin vAdd (fBin vMul (fVar 3) (fVar 3)) (fBin vMul (fC (.int 16807)) (fVar 3))) (fBin vMul (fBin vAdd (fVar 2) (fC (.int 1))) (fC (.int 40692)))) (fVar 1)) aNil)) (fC (.int 2147483399))))
  (xSeq (xSet (.one 5) (fBin vMod (fCall gInt (aCons (fBin vAdd (fBin vMul (fVar 4) (fVar 4)) (fVar 3)) aNil)) (fC (.int 2147483629))))
  (xRet (fBin vMod (fCall gInt (aCons (fBin vAdd (fBin vAdd (fBin vMul (fVar 5) (fC (.int 2147483399))) (fBin vMul (fVar 4) (fC (.int 31)))) (fVar 2)) aNil)) (fC (.int 4611686014132420609)))))))) [some v, some (.int k), some (.int cell), none, none, none] st) = some (.int y, st) := by
    intro cell
    simp only [ev_bin, ev_ix, ev_and, ev_or, ev_not, ev_neg, ev_tV, ev_tand, ev_tor, ev_tnot, ev_if, ev_chain, ev_acons, ev_tup, ev_lst, ev_new, ev_call, ev_osome, ev_sl, ev_meth, ev_kget, ev_comp, ev_compN, ev_iseq, ev_range1, ev_seq, ev_set, ev_drop, ev_ret, ev_xif, ev_for, fVar, fC, aNil, oNone, xNil, xRetN, fDict, eT, bind_ite, fin3_rt, fin3_nx, fin3_ite, Option.bind_some, Option.bind_none, List.getElem?_cons_zero, List.getElem?_cons_succ, List.set_cons_zero, List.set_cons_succ, vAdd, vSub, vMul, vMod, vFdiv, vPow, vLt, vLe, vGt, vGe, vEq, vNe, vEqB, vIs, vIsnt, DD.isN, vIx_tup, vIx_lst, vIx_frz, gLen_tup, gLen_lst, gLen_frz, gTuple_tup, gTuple_lst, gList_tup, gList_lst, gInt_int, gInt_bl, vSl, wipeE, if_true, if_false, Bool.false_eq_true, decide_eq_true_eq, List.length_cons, List.length_nil, finB_0, cl_non, cl_bl, cl_int, cl_str, cl_tup, cl_lst, cls_nil, cls_cons, gLen_str, ev_zip, ev_enum, ev_text, ev_range2, ev_sub, ev_dput, walked_tup, walked_lst, walked_str, cutL_1, Bool.and_true, Bool.true_and, Bool.not_true, Bool.not_false, hg, Int.reducePow, Int.reduceNeg, Int.reduceLT, Int.reduceLE, Int.reduceToNat, Int.reduceAbs, p0, Nat.reducePow, Nat.reduceLT, true_and, and_true, and_self, or_true, true_or, m1, m2, m3, m4]
    have fin : ∀ (b : Bool) (p q : Val), ∃ y, finB st st y = finB st st y := fun _ _ _ => ⟨.non, rfl⟩
    by_cases hc : (1000000000 : Int) ≤ cell
    · by_cases hk : k < (l.length : Int)
      · simp only [hc, hk, decide_true, ev_bin, ev_ix, ev_and, ev_or, ev_not, ev_neg, ev_tV, ev_tand, ev_tor, ev_tnot, ev_if, ev_chain, ev_acons, ev_tup, ev_lst, ev_new, ev_call, ev_osome, ev_sl, ev_meth, ev_kget, ev_comp, ev_compN, ev_iseq, ev_range1, ev_seq, ev_set, ev_drop, ev_ret, ev_xif, ev_for, fVar, fC, aNil, oNone, xNil, xRetN, fDict, eT, bind_ite, fin3_rt, fin3_nx, fin3_ite, Option.bind_some, Option.bind_none, List.getElem?_cons_zero, List.getElem?_cons_succ, List.set_cons_zero, List.set_cons_succ, vAdd, vSub, vMul, vMod, vFdiv, vPow, vLt, vLe, vGt, vGe, vEq, vNe, vEqB, vIs, vIsnt, DD.isN, vIx_tup, vIx_lst, vIx_frz, gLen_tup, gLen_lst, gLen_frz, gTuple_tup, gTuple_lst, gList_tup, gList_lst, gInt_int, gInt_bl, vSl, wipeE, if_true, if_false, Bool.false_eq_true, decide_eq_true_eq, List.length_cons, List.length_nil, finB_0, cl_non, cl_bl, cl_int, cl_str, cl_tup, cl_lst, cls_nil, cls_cons, gLen_str, ev_zip, ev_enum, ev_text, ev_range2, ev_sub, ev_dput, walked_tup, walked_lst, walked_str, cutL_1, Bool.and_true, Bool.true_and, Bool.not_true, Bool.not_false]
        exact ⟨_, rfl⟩
      · simp only [hc, hk, decide_true, decide_false, ev_bin, ev_ix, ev_and, ev_or, ev_not, ev_neg, ev_tV, ev_tand, ev_tor, ev_tnot, ev_if, ev_chain, ev_acons, ev_tup, ev_lst, ev_new, ev_call, ev_osome, ev_sl, ev_meth, ev_kget, ev_comp, ev_compN, ev_iseq, ev_range1, ev_seq, ev_set, ev_drop, ev_ret, ev_xif, ev_for, fVar, fC, aNil, oNone, xNil, xRetN, fDict, eT, bind_ite, fin3_rt, fin3_nx, fin3_ite, Option.bind_some, Option.bind_none, List.getElem?_cons_zero, List.getElem?_cons_succ, List.set_cons_zero, List.set_cons_succ, vAdd, vSub, vMul, vMod, vFdiv, vPow, vLt, vLe, vGt, vGe, vEq, vNe, vEqB, vIs, vIsnt, DD.isN, vIx_tup, vIx_lst, vIx_frz, gLen_tup, gLen_lst, gLen_frz, gTuple_tup, gTuple_lst, gList_tup, gList_lst, gInt_int, gInt_bl, vSl, wipeE, if_true, if_false, Bool.false_eq_true, decide_eq_true_eq, List.length_cons, List.length_nil, finB_0, cl_non, cl_bl, cl_int, cl_str, cl_tup, cl_lst, cls_nil, cls_cons, gLen_str, ev_zip, ev_enum, ev_text, ev_range2, ev_sub, ev_dput, walked_tup, walked_lst, walked_str, cutL_1, Bool.and_true, Bool.true_and, Bool.not_true, Bool.not_false]
        exact ⟨_, rfl⟩
    · simp only [hc, decide_false, ev_bin, ev_ix, ev_and, ev_or, ev_not, ev_neg, ev_tV, ev_tand, ev_tor, ev_tnot, ev_if, ev_chain, ev_acons, ev_tup, ev_lst, ev_new, ev_call, ev_osome, ev_sl, ev_meth, ev_kget, ev_comp, ev_compN, ev_iseq, ev_range1, ev_seq, ev_set, ev_drop, ev_ret, ev_xif, ev_for, fVar, fC, aNil, oNone, xNil, xRetN, fDict, eT, bind_ite, fin3_rt, fin3_nx, fin3_ite, Option.bind_some, Option.bind_none, List.getElem?_cons_zero, List.getElem?_cons_succ, List.set_cons_zero, List.set_cons_succ, vAdd, vSub, vMul, vMod, vFdiv, vPow, vLt, vLe, vGt, vGe, vEq, vNe, vEqB, vIs, vIsnt, DD.isN, vIx_tup, vIx_lst, vIx_frz, gLen_tup, gLen_lst, gLen_frz, gTuple_tup, gTuple_lst, gList_tup, gList_lst, gInt_int, gInt_bl, vSl, wipeE, if_true, if_false, Bool.false_eq_true, decide_eq_true_eq, List.length_cons, List.length_nil, finB_0, cl_non, cl_bl, cl_int, cl_str, cl_tup, cl_lst, cls_nil, cls_cons, gLen_str, ev_zip, ev_enum, ev_text, ev_range2, ev_sub, ev_dput, walked_tup, walked_lst, walked_str, cutL_1, Bool.and_true, Bool.true_and, Bool.not_true, Bool.not_false]
      exact ⟨_, rfl⟩
  rw [ev_seq]
  simp only [ev_xif, ev_bin, ev_tV, fVar, fC, ev_set, eT, xNil, vLt, vSub, vMul, Option.bind_some, List.getElem?_cons_zero, List.getElem?_cons_succ, List.set_cons_zero, List.set_cons_succ, decide_eq_true_eq, Int.reducePow, Int.reduceNeg, Int.reduceLT, true_and, and_self, true_or, if_true]
  by_cases hc : cell < 0
  · simp only [hc, if_true, Option.bind_some]
    exact main _
  · simp only [hc, if_false, Option.bind_some]
    exact main _
theorem n_number {v : Val} {l : List Val} {k : Int} (h : v = .frz l ∨ v = .lst l) (hl : ∀ w ∈ l, ∃ i, w = .int i) : ∃ y, g__law_number [v, .int k] st = some (.int y, st) := by
  rw [gd__law_number]
  have hg : gLen [v] st = some (.int l.length, st) := by rcases h with rfl | rfl <;> rfl
  have hx : ∀ i : Int, vIx v (.int i) st = atI l i := fun i => by rcases h with rfl | rfl <;> rfl
  unfold b__law_number
  rw [ev_seq]
  simp only [ev_set, fC, eT, Option.bind_some, List.set_cons_zero, List.set_cons_succ]
  rw [ev_seq]
  simp only [ev_xif, ev_bin, ev_ix, ev_acons, ev_call, ev_tV, fVar, fC, ev_set, aNil, eT, xNil, vGt, hg, hx, gInt_int, vMod, Option.bind_some, List.getElem?_cons_zero, List.getElem?_cons_succ, List.set_cons_zero, List.set_cons_succ, decide_eq_true_eq]
  by_cases h0 : 0 < (l.length : Int)
  · have hlt : (k % (l.length : Int)) < l.length := Int.emod_lt_of_pos _ h0
    have hge : 0 ≤ k % (l.length : Int) := Int.emod_nonneg _ (by omega)
    have hi : (k % (l.length : Int)).toNat < l.length := by omega
    obtain ⟨i, hi2⟩ := hl _ (List.getElem_mem hi)
    simp only [h0, if_true, Option.bind_some, hx, atI_int hge, List.getElem?_eq_getElem hi, hi2, List.set_cons_zero, List.set_cons_succ]
    exact num_tail hg
  · simp only [h0, if_false, Option.bind_some]
    exact num_tail hg
theorem ne_dec {x y : Nat} : (!decide ((x : Int) = (y : Int))) = decide (x ≠ y) := by
  by_cases h : x = y
  · subst h; simp
  · have : ¬ (x : Int) = (y : Int) := by omega
    simp [h, this]
theorem ne_int {x y : Nat} : vNe (.int (x : Int)) (.int (y : Int)) st = some (.bl (decide (x ≠ y))) := by
  show some (Val.bl (!decide ((x : Int) = (y : Int)))) = _
  rw [ne_dec]
theorem others_eq {e : Slots} {f : Ev} {g : Et} {t : Tg} (h : ∀ x, x < c → ∃ e1, eT t (nI x) e = some e1 ∧ g e1 st = some (decide (x ≠ n), st) ∧ f e1 st = some (nI x, st)) : loopC t g f e (rng 0 (c : Int).toNat) st = some (nv (othersN c n), st) := by
  rw [Int.toNat_natCast, rng_nv]
  unfold othersN nv
  exact loopC_filterT (fun i : Nat => Val.int (i : Int)) (fun x => decide (x ≠ n)) (fun i : Nat => Val.int (i : Int)) fun x hx => by
    obtain ⟨e1, h1, h2, h3⟩ := h x (List.mem_range.mp hx)
    exact ⟨e1, h1, h2, fun _ => h3⟩
theorem n_crowd {i : Nat} {x : Int} (h : st[i]? = some (.list [.int x])) (hc : 2 ≤ c) (hc5 : c ≤ 5) : ∃ (y : Int) (l : List Nat), g__law_crowd [.ref i, .int (c : Int), .int (n : Int)] st = some (.tup (nv l), st.set i (.list [.int y])) ∧ okCrowd l c n := by
  rw [gd__law_crowd]
  simp only [b__law_crowd, ev_bin, ev_ix, ev_and, ev_or, ev_not, ev_neg, ev_tV, ev_tand, ev_tor, ev_tnot, ev_if, ev_chain, ev_acons, ev_tup, ev_lst, ev_new, ev_call, ev_osome, ev_sl, ev_meth, ev_kget, ev_comp, ev_compN, ev_iseq, ev_range1, ev_seq, ev_set, ev_drop, ev_ret, ev_xif, ev_for, fVar, fC, aNil, oNone, xNil, xRetN, fDict, eT, bind_ite, fin3_rt, fin3_nx, fin3_ite, Option.bind_some, Option.bind_none, List.getElem?_cons_zero, List.getElem?_cons_succ, List.set_cons_zero, List.set_cons_succ, vAdd, vSub, vMul, vMod, vFdiv, vPow, vLt, vLe, vGt, vGe, vEq, vNe, vEqB, vIs, vIsnt, DD.isN, vIx_tup, vIx_lst, vIx_frz, gLen_tup, gLen_lst, gLen_frz, gTuple_tup, gTuple_lst, gList_tup, gList_lst, gInt_int, gInt_bl, vSl, wipeE, if_true, if_false, Bool.false_eq_true, decide_eq_true_eq, List.length_cons, List.length_nil, finB_0, cl_non, cl_bl, cl_int, cl_str, cl_tup, cl_lst, cls_nil, cls_cons, gLen_str, ev_zip, ev_enum, ev_text, ev_range2, ev_sub, ev_dput, walked_tup, walked_lst, walked_str, cutL_1, Bool.and_true, Bool.true_and, Bool.not_true, Bool.not_false]
  rw [if_pos ⟨by omega, by omega⟩]
  rw [if_pos (by rw [rng_len]; omega)]
  rw [others_eq (n := n) (fun x hx => ⟨_, rfl, by simp only [ev_bin, ev_ix, ev_and, ev_or, ev_not, ev_neg, ev_tV, ev_tand, ev_tor, ev_tnot, ev_if, ev_chain, ev_acons, ev_tup, ev_lst, ev_new, ev_call, ev_osome, ev_sl, ev_meth, ev_kget, ev_comp, ev_compN, ev_iseq, ev_range1, ev_seq, ev_set, ev_drop, ev_ret, ev_xif, ev_for, fVar, fC, aNil, oNone, xNil, xRetN, fDict, eT, bind_ite, fin3_rt, fin3_nx, fin3_ite, Option.bind_some, Option.bind_none, List.getElem?_cons_zero, List.getElem?_cons_succ, List.set_cons_zero, List.set_cons_succ, vAdd, vSub, vMul, vMod, vFdiv, vPow, vLt, vLe, vGt, vGe, vEq, vNe, vEqB, vIs, vIsnt, DD.isN, vIx_tup, vIx_lst, vIx_frz, gLen_tup, gLen_lst, gLen_frz, gTuple_tup, gTuple_lst, gList_tup, gList_lst, gInt_int, gInt_bl, vSl, wipeE, if_true, if_false, Bool.false_eq_true, decide_eq_true_eq, List.length_cons, List.length_nil, finB_0, cl_non, cl_bl, cl_int, cl_str, cl_tup, cl_lst, cls_nil, cls_cons, gLen_str, ev_zip, ev_enum, ev_text, ev_range2, ev_sub, ev_dput, walked_tup, walked_lst, walked_str, cutL_1, Bool.and_true, Bool.true_and, Bool.not_true, Bool.not_false, nI]; show (match Val.bl (!decide ((x : Int) = (n : Int))) with | .bl b => some (b, st) | _ => none) = _; show some (!decide ((x : Int) = (n : Int)), st) = _; rw [ne_dec], rfl⟩)]
  simp only [ev_bin, ev_ix, ev_and, ev_or, ev_not, ev_neg, ev_tV, ev_tand, ev_tor, ev_tnot, ev_if, ev_chain, ev_acons, ev_tup, ev_lst, ev_new, ev_call, ev_osome, ev_sl, ev_meth, ev_kget, ev_comp, ev_compN, ev_iseq, ev_range1, ev_seq, ev_set, ev_drop, ev_ret, ev_xif, ev_for, fVar, fC, aNil, oNone, xNil, xRetN, fDict, eT, bind_ite, fin3_rt, fin3_nx, fin3_ite, Option.bind_some, Option.bind_none, List.getElem?_cons_zero, List.getElem?_cons_succ, List.set_cons_zero, List.set_cons_succ, vAdd, vSub, vMul, vMod, vFdiv, vPow, vLt, vLe, vGt, vGe, vEq, vNe, vEqB, vIs, vIsnt, DD.isN, vIx_tup, vIx_lst, vIx_frz, gLen_tup, gLen_lst, gLen_frz, gTuple_tup, gTuple_lst, gList_tup, gList_lst, gInt_int, gInt_bl, vSl, wipeE, if_true, if_false, Bool.false_eq_true, decide_eq_true_eq, List.length_cons, List.length_nil, finB_0, cl_non, cl_bl, cl_int, cl_str, cl_tup, cl_lst, cls_nil, cls_cons, gLen_str, ev_zip, ev_enum, ev_text, ev_range2, ev_sub, ev_dput, walked_tup, walked_lst, walked_str, cutL_1, Bool.and_true, Bool.true_and, Bool.not_true, Bool.not_false]
  have hO2 := others_pos (n := n) hc
  have hO3 := others_len (c := c) (n := n)
  rw [if_pos (by rw [nv_len]; omega)]
  obtain ⟨l', st', h1, ⟨y, rfl⟩, h3⟩ := loopC_subT (t := .one 4) (g := tV (fBin vGt (fCall g__law_take (aCons (fVar 0) (aCons (fC (.int 3)) aNil))) (fC (.int 0)))) (fe := fVar 4) (env := [some (.ref i), some (.int (c : Int)), some (.int (n : Int)), some (.lst (nv (othersN c n))), none, none]) (fun i : Nat => Val.int (i : Int)) (fun s => ∃ y, s = st.set i (.list [.int y])) (l := othersN c n) (st := st) ⟨x, set_self h⟩ (by
    rintro v hv s ⟨y, rfl⟩
    refine ⟨_, decide (0 < y % 3), st.set i (.list [.int (y / 3)]), rfl, ?_, ⟨_, rfl⟩, fun _ => rfl⟩
    simp only [ev_bin, ev_ix, ev_and, ev_or, ev_not, ev_neg, ev_tV, ev_tand, ev_tor, ev_tnot, ev_if, ev_chain, ev_acons, ev_tup, ev_lst, ev_new, ev_call, ev_osome, ev_sl, ev_meth, ev_kget, ev_comp, ev_compN, ev_iseq, ev_range1, ev_seq, ev_set, ev_drop, ev_ret, ev_xif, ev_for, fVar, fC, aNil, oNone, xNil, xRetN, fDict, eT, bind_ite, fin3_rt, fin3_nx, fin3_ite, Option.bind_some, Option.bind_none, List.getElem?_cons_zero, List.getElem?_cons_succ, List.set_cons_zero, List.set_cons_succ, vAdd, vSub, vMul, vMod, vFdiv, vPow, vLt, vLe, vGt, vGe, vEq, vNe, vEqB, vIs, vIsnt, DD.isN, vIx_tup, vIx_lst, vIx_frz, gLen_tup, gLen_lst, gLen_frz, gTuple_tup, gTuple_lst, gList_tup, gList_lst, gInt_int, gInt_bl, vSl, wipeE, if_true, if_false, Bool.false_eq_true, decide_eq_true_eq, List.length_cons, List.length_nil, finB_0, cl_non, cl_bl, cl_int, cl_str, cl_tup, cl_lst, cls_nil, cls_cons, gLen_str, ev_zip, ev_enum, ev_text, ev_range2, ev_sub, ev_dput, walked_tup, walked_lst, walked_str, cutL_1, Bool.and_true, Bool.true_and, Bool.not_true, Bool.not_false, n_take (set_get h) (show (0 : Int) < 3 by decide) (by decide), List.set_set])
  change loopC _ _ _ _ (nv (othersN c n)) st = some (nv l', _) at h1
  rw [h1]
  simp only [ev_bin, ev_ix, ev_and, ev_or, ev_not, ev_neg, ev_tV, ev_tand, ev_tor, ev_tnot, ev_if, ev_chain, ev_acons, ev_tup, ev_lst, ev_new, ev_call, ev_osome, ev_sl, ev_meth, ev_kget, ev_comp, ev_compN, ev_iseq, ev_range1, ev_seq, ev_set, ev_drop, ev_ret, ev_xif, ev_for, fVar, fC, aNil, oNone, xNil, xRetN, fDict, eT, bind_ite, fin3_rt, fin3_nx, fin3_ite, Option.bind_some, Option.bind_none, List.getElem?_cons_zero, List.getElem?_cons_succ, List.set_cons_zero, List.set_cons_succ, vAdd, vSub, vMul, vMod, vFdiv, vPow, vLt, vLe, vGt, vGe, vEq, vNe, vEqB, vIs, vIsnt, DD.isN, vIx_tup, vIx_lst, vIx_frz, gLen_tup, gLen_lst, gLen_frz, gTuple_tup, gTuple_lst, gList_tup, gList_lst, gInt_int, gInt_bl, vSl, wipeE, if_true, if_false, Bool.false_eq_true, decide_eq_true_eq, List.length_cons, List.length_nil, finB_0, cl_non, cl_bl, cl_int, cl_str, cl_tup, cl_lst, cls_nil, cls_cons, gLen_str, ev_zip, ev_enum, ev_text, ev_range2, ev_sub, ev_dput, walked_tup, walked_lst, walked_str, cutL_1, Bool.and_true, Bool.true_and, Bool.not_true, Bool.not_false]
  by_cases hl : l'.length = 0
  · have hl2 : ((nv l').length : Int) = 0 := by rw [nv_len]; omega
    have hO2' : 0 < ((nv (othersN c n)).length : Int) := by rw [nv_len]; omega
    simp only [hl2, if_true, n_take (set_get h) hO2' (show ((nv (othersN c n)).length : Int) < 1073741824 by rw [nv_len]; omega), ev_bin, ev_ix, ev_and, ev_or, ev_not, ev_neg, ev_tV, ev_tand, ev_tor, ev_tnot, ev_if, ev_chain, ev_acons, ev_tup, ev_lst, ev_new, ev_call, ev_osome, ev_sl, ev_meth, ev_kget, ev_comp, ev_compN, ev_iseq, ev_range1, ev_seq, ev_set, ev_drop, ev_ret, ev_xif, ev_for, fVar, fC, aNil, oNone, xNil, xRetN, fDict, eT, bind_ite, fin3_rt, fin3_nx, fin3_ite, Option.bind_some, Option.bind_none, List.getElem?_cons_zero, List.getElem?_cons_succ, List.set_cons_zero, List.set_cons_succ, vAdd, vSub, vMul, vMod, vFdiv, vPow, vLt, vLe, vGt, vGe, vEq, vNe, vEqB, vIs, vIsnt, DD.isN, vIx_tup, vIx_lst, vIx_frz, gLen_tup, gLen_lst, gLen_frz, gTuple_tup, gTuple_lst, gList_tup, gList_lst, gInt_int, gInt_bl, vSl, wipeE, if_true, if_false, Bool.false_eq_true, decide_eq_true_eq, List.length_cons, List.length_nil, finB_0, cl_non, cl_bl, cl_int, cl_str, cl_tup, cl_lst, cls_nil, cls_cons, gLen_str, ev_zip, ev_enum, ev_text, ev_range2, ev_sub, ev_dput, walked_tup, walked_lst, walked_str, cutL_1, Bool.and_true, Bool.true_and, Bool.not_true, Bool.not_false, List.set_set]
    obtain ⟨v, e1, e2⟩ := nv_mod (x := y) hO2
    rw [← nv_len] at e1
    simp only [e1, ev_bin, ev_ix, ev_and, ev_or, ev_not, ev_neg, ev_tV, ev_tand, ev_tor, ev_tnot, ev_if, ev_chain, ev_acons, ev_tup, ev_lst, ev_new, ev_call, ev_osome, ev_sl, ev_meth, ev_kget, ev_comp, ev_compN, ev_iseq, ev_range1, ev_seq, ev_set, ev_drop, ev_ret, ev_xif, ev_for, fVar, fC, aNil, oNone, xNil, xRetN, fDict, eT, bind_ite, fin3_rt, fin3_nx, fin3_ite, Option.bind_some, Option.bind_none, List.getElem?_cons_zero, List.getElem?_cons_succ, List.set_cons_zero, List.set_cons_succ, vAdd, vSub, vMul, vMod, vFdiv, vPow, vLt, vLe, vGt, vGe, vEq, vNe, vEqB, vIs, vIsnt, DD.isN, vIx_tup, vIx_lst, vIx_frz, gLen_tup, gLen_lst, gLen_frz, gTuple_tup, gTuple_lst, gList_tup, gList_lst, gInt_int, gInt_bl, vSl, wipeE, if_true, if_false, Bool.false_eq_true, decide_eq_true_eq, List.length_cons, List.length_nil, finB_0, cl_non, cl_bl, cl_int, cl_str, cl_tup, cl_lst, cls_nil, cls_cons, gLen_str, ev_zip, ev_enum, ev_text, ev_range2, ev_sub, ev_dput, walked_tup, walked_lst, walked_str, cutL_1, Bool.and_true, Bool.true_and, Bool.not_true, Bool.not_false, Nat.reduceAdd, Nat.reduceLeDiff, if_true]
    rw [finB_s (v := .tup [nI v]) rfl (by rw [cl_tup]; exact nv_cl (l := [v]))]
    exact ⟨_, [v], rfl, crowd_sub (List.singleton_sublist.mpr e2) (by simp)⟩
  · have hl2 : ¬ ((nv l').length : Int) = 0 := by rw [nv_len]; omega
    simp only [hl2, if_false, ev_bin, ev_ix, ev_and, ev_or, ev_not, ev_neg, ev_tV, ev_tand, ev_tor, ev_tnot, ev_if, ev_chain, ev_acons, ev_tup, ev_lst, ev_new, ev_call, ev_osome, ev_sl, ev_meth, ev_kget, ev_comp, ev_compN, ev_iseq, ev_range1, ev_seq, ev_set, ev_drop, ev_ret, ev_xif, ev_for, fVar, fC, aNil, oNone, xNil, xRetN, fDict, eT, bind_ite, fin3_rt, fin3_nx, fin3_ite, Option.bind_some, Option.bind_none, List.getElem?_cons_zero, List.getElem?_cons_succ, List.set_cons_zero, List.set_cons_succ, vAdd, vSub, vMul, vMod, vFdiv, vPow, vLt, vLe, vGt, vGe, vEq, vNe, vEqB, vIs, vIsnt, DD.isN, vIx_tup, vIx_lst, vIx_frz, gLen_tup, gLen_lst, gLen_frz, gTuple_tup, gTuple_lst, gList_tup, gList_lst, gInt_int, gInt_bl, vSl, wipeE, if_true, if_false, Bool.false_eq_true, decide_eq_true_eq, List.length_cons, List.length_nil, finB_0, cl_non, cl_bl, cl_int, cl_str, cl_tup, cl_lst, cls_nil, cls_cons, gLen_str, ev_zip, ev_enum, ev_text, ev_range2, ev_sub, ev_dput, walked_tup, walked_lst, walked_str, cutL_1, Bool.and_true, Bool.true_and, Bool.not_true, Bool.not_false]
    rw [finB_s rfl (by rw [cl_tup]; exact nv_cl)]
    exact ⟨_, _, rfl, crowd_sub h3 fun e => hl (by rw [e]; rfl)⟩
theorem n_instr {x : Int} (hc : 2 ≤ c) (hc5 : c ≤ 5) : ∃ i : Ins, g__law_instruction [.int x, .int (c : Int), .int (n : Int)] st = some (i.val, st) ∧ i.ok c n := by
  rw [gd__law_instruction]
  simp only [b__law_instruction, ev_bin, ev_ix, ev_and, ev_or, ev_not, ev_neg, ev_tV, ev_tand, ev_tor, ev_tnot, ev_if, ev_chain, ev_acons, ev_tup, ev_lst, ev_new, ev_call, ev_osome, ev_sl, ev_meth, ev_kget, ev_comp, ev_compN, ev_iseq, ev_range1, ev_seq, ev_set, ev_drop, ev_ret, ev_xif, ev_for, fVar, fC, aNil, oNone, xNil, xRetN, fDict, eT, bind_ite, fin3_rt, fin3_nx, fin3_ite, Option.bind_some, Option.bind_none, List.getElem?_cons_zero, List.getElem?_cons_succ, List.set_cons_zero, List.set_cons_succ, vAdd, vSub, vMul, vMod, vFdiv, vPow, vLt, vLe, vGt, vGe, vEq, vNe, vEqB, vIs, vIsnt, DD.isN, vIx_tup, vIx_lst, vIx_frz, gLen_tup, gLen_lst, gLen_frz, gTuple_tup, gTuple_lst, gList_tup, gList_lst, gInt_int, gInt_bl, vSl, wipeE, if_true, if_false, Bool.false_eq_true, decide_eq_true_eq, List.length_cons, List.length_nil, finB_0, cl_non, cl_bl, cl_int, cl_str, cl_tup, cl_lst, cls_nil, cls_cons, gLen_str, ev_zip, ev_enum, ev_text, ev_range2, ev_sub, ev_dput, walked_tup, walked_lst, walked_str, cutL_1, Bool.and_true, Bool.true_and, Bool.not_true, Bool.not_false, Nat.reduceAdd, Nat.reduceLeDiff, n_take_last, Int.reduceLT]
  rw [if_pos ⟨by omega, by omega⟩]
  rw [if_pos (by rw [rng_len]; omega)]
  rw [others_eq (n := n) (fun x hx => ⟨_, rfl, by simp only [ev_bin, ev_ix, ev_and, ev_or, ev_not, ev_neg, ev_tV, ev_tand, ev_tor, ev_tnot, ev_if, ev_chain, ev_acons, ev_tup, ev_lst, ev_new, ev_call, ev_osome, ev_sl, ev_meth, ev_kget, ev_comp, ev_compN, ev_iseq, ev_range1, ev_seq, ev_set, ev_drop, ev_ret, ev_xif, ev_for, fVar, fC, aNil, oNone, xNil, xRetN, fDict, eT, bind_ite, fin3_rt, fin3_nx, fin3_ite, Option.bind_some, Option.bind_none, List.getElem?_cons_zero, List.getElem?_cons_succ, List.set_cons_zero, List.set_cons_succ, vAdd, vSub, vMul, vMod, vFdiv, vPow, vLt, vLe, vGt, vGe, vEq, vNe, vEqB, vIs, vIsnt, DD.isN, vIx_tup, vIx_lst, vIx_frz, gLen_tup, gLen_lst, gLen_frz, gTuple_tup, gTuple_lst, gList_tup, gList_lst, gInt_int, gInt_bl, vSl, wipeE, if_true, if_false, Bool.false_eq_true, decide_eq_true_eq, List.length_cons, List.length_nil, finB_0, cl_non, cl_bl, cl_int, cl_str, cl_tup, cl_lst, cls_nil, cls_cons, gLen_str, ev_zip, ev_enum, ev_text, ev_range2, ev_sub, ev_dput, walked_tup, walked_lst, walked_str, cutL_1, Bool.and_true, Bool.true_and, Bool.not_true, Bool.not_false, nI]; show (match Val.bl (!decide ((x : Int) = (n : Int))) with | .bl b => some (b, st ++ _) | _ => none) = _; show some (!decide ((x : Int) = (n : Int)), st ++ _) = _; rw [ne_dec], rfl⟩)]
  have hO2 := others_pos (n := n) hc
  have hO3 := others_len (c := c) (n := n)
  have hO2' : 0 < ((nv (othersN c n)).length : Int) := by rw [nv_len]; omega
  have hO3' : ((nv (othersN c n)).length : Int) < 1073741824 := by rw [nv_len]; omega
  simp only [ev_bin, ev_ix, ev_and, ev_or, ev_not, ev_neg, ev_tV, ev_tand, ev_tor, ev_tnot, ev_if, ev_chain, ev_acons, ev_tup, ev_lst, ev_new, ev_call, ev_osome, ev_sl, ev_meth, ev_kget, ev_comp, ev_compN, ev_iseq, ev_range1, ev_seq, ev_set, ev_drop, ev_ret, ev_xif, ev_for, fVar, fC, aNil, oNone, xNil, xRetN, fDict, eT, bind_ite, fin3_rt, fin3_nx, fin3_ite, Option.bind_some, Option.bind_none, List.getElem?_cons_zero, List.getElem?_cons_succ, List.set_cons_zero, List.set_cons_succ, vAdd, vSub, vMul, vMod, vFdiv, vPow, vLt, vLe, vGt, vGe, vEq, vNe, vEqB, vIs, vIsnt, DD.isN, vIx_tup, vIx_lst, vIx_frz, gLen_tup, gLen_lst, gLen_frz, gTuple_tup, gTuple_lst, gList_tup, gList_lst, gInt_int, gInt_bl, vSl, wipeE, if_true, if_false, Bool.false_eq_true, decide_eq_true_eq, List.length_cons, List.length_nil, finB_0, cl_non, cl_bl, cl_int, cl_str, cl_tup, cl_lst, cls_nil, cls_cons, gLen_str, ev_zip, ev_enum, ev_text, ev_range2, ev_sub, ev_dput, walked_tup, walked_lst, walked_str, cutL_1, Bool.and_true, Bool.true_and, Bool.not_true, Bool.not_false, n_take_last hO2' hO3']
  obtain ⟨to, e1, e2⟩ := nv_mod (x := x / 21) hO2
  rw [← nv_len] at e1
  have hto := others_mem e2
  simp only [e1, ev_bin, ev_ix, ev_and, ev_or, ev_not, ev_neg, ev_tV, ev_tand, ev_tor, ev_tnot, ev_if, ev_chain, ev_acons, ev_tup, ev_lst, ev_new, ev_call, ev_osome, ev_sl, ev_meth, ev_kget, ev_comp, ev_compN, ev_iseq, ev_range1, ev_seq, ev_set, ev_drop, ev_ret, ev_xif, ev_for, fVar, fC, aNil, oNone, xNil, xRetN, fDict, eT, bind_ite, fin3_rt, fin3_nx, fin3_ite, Option.bind_some, Option.bind_none, List.getElem?_cons_zero, List.getElem?_cons_succ, List.set_cons_zero, List.set_cons_succ, vAdd, vSub, vMul, vMod, vFdiv, vPow, vLt, vLe, vGt, vGe, vEq, vNe, vEqB, vIs, vIsnt, DD.isN, vIx_tup, vIx_lst, vIx_frz, gLen_tup, gLen_lst, gLen_frz, gTuple_tup, gTuple_lst, gList_tup, gList_lst, gInt_int, gInt_bl, vSl, wipeE, if_true, if_false, Bool.false_eq_true, decide_eq_true_eq, List.length_cons, List.length_nil, finB_0, cl_non, cl_bl, cl_int, cl_str, cl_tup, cl_lst, cls_nil, cls_cons, gLen_str, ev_zip, ev_enum, ev_text, ev_range2, ev_sub, ev_dput, walked_tup, walked_lst, walked_str, cutL_1, Bool.and_true, Bool.true_and, Bool.not_true, Bool.not_false, n_take_last, Int.reduceLT]
  generalize hk : x % 21 = kind
  generalize hy : x / 21 / ((nv (othersN c n)).length : Int) = y
  obtain ⟨r, hr0, hr1⟩ := nat_of (x := y) (s := 4) (by decide)
  obtain ⟨s, hs0, hs1⟩ := nat_of (x := y / 4) (s := 3) (by decide)
  have hr : r < 4 := by omega
  have hs : s < 3 := by omega
  rw [hr0, hs0]
  generalize y / 4 / 3 = z
  have cr : ∀ w : String, ∀ a b : Nat, cl 0 (.tup [.str (Str.ofString w), .int (a : Int), .int (b : Int)]) = true := fun w a b => by simp only [cl_tup, cls_cons, cls_nil, cl_str, cl_int, Bool.and_true]
  have c1 : ∀ w : String, ∀ a : Nat, cl 0 (.tup [.str (Str.ofString w), .int (a : Int)]) = true := fun w a => by simp only [cl_tup, cls_cons, cls_nil, cl_str, cl_int, Bool.and_true]
  have cc : ∀ w : String, ∀ a : Nat, ∀ l : List Nat, cl 0 (.tup [.str (Str.ofString w), .int (a : Int), .tup (nv l)]) = true := fun w a l => by simp only [cl_tup, cls_cons, cls_nil, cl_str, cl_int, nv_cl, Bool.and_true]
  by_cases h1 : kind < 5
  · simp only [h1, if_true, ev_bin, ev_ix, ev_and, ev_or, ev_not, ev_neg, ev_tV, ev_tand, ev_tor, ev_tnot, ev_if, ev_chain, ev_acons, ev_tup, ev_lst, ev_new, ev_call, ev_osome, ev_sl, ev_meth, ev_kget, ev_comp, ev_compN, ev_iseq, ev_range1, ev_seq, ev_set, ev_drop, ev_ret, ev_xif, ev_for, fVar, fC, aNil, oNone, xNil, xRetN, fDict, eT, bind_ite, fin3_rt, fin3_nx, fin3_ite, Option.bind_some, Option.bind_none, List.getElem?_cons_zero, List.getElem?_cons_succ, List.set_cons_zero, List.set_cons_succ, vAdd, vSub, vMul, vMod, vFdiv, vPow, vLt, vLe, vGt, vGe, vEq, vNe, vEqB, vIs, vIsnt, DD.isN, vIx_tup, vIx_lst, vIx_frz, gLen_tup, gLen_lst, gLen_frz, gTuple_tup, gTuple_lst, gList_tup, gList_lst, gInt_int, gInt_bl, vSl, wipeE, if_true, if_false, Bool.false_eq_true, decide_eq_true_eq, List.length_cons, List.length_nil, finB_0, cl_non, cl_bl, cl_int, cl_str, cl_tup, cl_lst, cls_nil, cls_cons, gLen_str, ev_zip, ev_enum, ev_text, ev_range2, ev_sub, ev_dput, walked_tup, walked_lst, walked_str, cutL_1, Bool.and_true, Bool.true_and, Bool.not_true, Bool.not_false, Nat.reduceAdd, Nat.reduceLeDiff, nI]
    exact ⟨.send to r, finB_1 (cr _ _ _), hto, hr⟩
  simp only [h1, if_false, ev_bin, ev_ix, ev_and, ev_or, ev_not, ev_neg, ev_tV, ev_tand, ev_tor, ev_tnot, ev_if, ev_chain, ev_acons, ev_tup, ev_lst, ev_new, ev_call, ev_osome, ev_sl, ev_meth, ev_kget, ev_comp, ev_compN, ev_iseq, ev_range1, ev_seq, ev_set, ev_drop, ev_ret, ev_xif, ev_for, fVar, fC, aNil, oNone, xNil, xRetN, fDict, eT, bind_ite, fin3_rt, fin3_nx, fin3_ite, Option.bind_some, Option.bind_none, List.getElem?_cons_zero, List.getElem?_cons_succ, List.set_cons_zero, List.set_cons_succ, vAdd, vSub, vMul, vMod, vFdiv, vPow, vLt, vLe, vGt, vGe, vEq, vNe, vEqB, vIs, vIsnt, DD.isN, vIx_tup, vIx_lst, vIx_frz, gLen_tup, gLen_lst, gLen_frz, gTuple_tup, gTuple_lst, gList_tup, gList_lst, gInt_int, gInt_bl, vSl, wipeE, if_true, if_false, Bool.false_eq_true, decide_eq_true_eq, List.length_cons, List.length_nil, finB_0, cl_non, cl_bl, cl_int, cl_str, cl_tup, cl_lst, cls_nil, cls_cons, gLen_str, ev_zip, ev_enum, ev_text, ev_range2, ev_sub, ev_dput, walked_tup, walked_lst, walked_str, cutL_1, Bool.and_true, Bool.true_and, Bool.not_true, Bool.not_false]
  by_cases h2 : kind < 9
  · obtain ⟨y', l, g1, g2⟩ := n_crowd (st := st ++ [.list [.int z]]) (n := n) getElem?_append_self hc hc5
    simp only [h2, if_true, ev_bin, ev_ix, ev_and, ev_or, ev_not, ev_neg, ev_tV, ev_tand, ev_tor, ev_tnot, ev_if, ev_chain, ev_acons, ev_tup, ev_lst, ev_new, ev_call, ev_osome, ev_sl, ev_meth, ev_kget, ev_comp, ev_compN, ev_iseq, ev_range1, ev_seq, ev_set, ev_drop, ev_ret, ev_xif, ev_for, fVar, fC, aNil, oNone, xNil, xRetN, fDict, eT, bind_ite, fin3_rt, fin3_nx, fin3_ite, Option.bind_some, Option.bind_none, List.getElem?_cons_zero, List.getElem?_cons_succ, List.set_cons_zero, List.set_cons_succ, vAdd, vSub, vMul, vMod, vFdiv, vPow, vLt, vLe, vGt, vGe, vEq, vNe, vEqB, vIs, vIsnt, DD.isN, vIx_tup, vIx_lst, vIx_frz, gLen_tup, gLen_lst, gLen_frz, gTuple_tup, gTuple_lst, gList_tup, gList_lst, gInt_int, gInt_bl, vSl, wipeE, if_true, if_false, Bool.false_eq_true, decide_eq_true_eq, List.length_cons, List.length_nil, finB_0, cl_non, cl_bl, cl_int, cl_str, cl_tup, cl_lst, cls_nil, cls_cons, gLen_str, ev_zip, ev_enum, ev_text, ev_range2, ev_sub, ev_dput, walked_tup, walked_lst, walked_str, cutL_1, Bool.and_true, Bool.true_and, Bool.not_true, Bool.not_false, Nat.reduceAdd, Nat.reduceLeDiff, g1, set_append_self]
    exact ⟨.get r l, finB_1 (cc _ _ _), hr, g2⟩
  simp only [h2, if_false, ev_bin, ev_ix, ev_and, ev_or, ev_not, ev_neg, ev_tV, ev_tand, ev_tor, ev_tnot, ev_if, ev_chain, ev_acons, ev_tup, ev_lst, ev_new, ev_call, ev_osome, ev_sl, ev_meth, ev_kget, ev_comp, ev_compN, ev_iseq, ev_range1, ev_seq, ev_set, ev_drop, ev_ret, ev_xif, ev_for, fVar, fC, aNil, oNone, xNil, xRetN, fDict, eT, bind_ite, fin3_rt, fin3_nx, fin3_ite, Option.bind_some, Option.bind_none, List.getElem?_cons_zero, List.getElem?_cons_succ, List.set_cons_zero, List.set_cons_succ, vAdd, vSub, vMul, vMod, vFdiv, vPow, vLt, vLe, vGt, vGe, vEq, vNe, vEqB, vIs, vIsnt, DD.isN, vIx_tup, vIx_lst, vIx_frz, gLen_tup, gLen_lst, gLen_frz, gTuple_tup, gTuple_lst, gList_tup, gList_lst, gInt_int, gInt_bl, vSl, wipeE, if_true, if_false, Bool.false_eq_true, decide_eq_true_eq, List.length_cons, List.length_nil, finB_0, cl_non, cl_bl, cl_int, cl_str, cl_tup, cl_lst, cls_nil, cls_cons, gLen_str, ev_zip, ev_enum, ev_text, ev_range2, ev_sub, ev_dput, walked_tup, walked_lst, walked_str, cutL_1, Bool.and_true, Bool.true_and, Bool.not_true, Bool.not_false]
  by_cases h3 : kind < 11
  · simp only [h3, if_true, ev_bin, ev_ix, ev_and, ev_or, ev_not, ev_neg, ev_tV, ev_tand, ev_tor, ev_tnot, ev_if, ev_chain, ev_acons, ev_tup, ev_lst, ev_new, ev_call, ev_osome, ev_sl, ev_meth, ev_kget, ev_comp, ev_compN, ev_iseq, ev_range1, ev_seq, ev_set, ev_drop, ev_ret, ev_xif, ev_for, fVar, fC, aNil, oNone, xNil, xRetN, fDict, eT, bind_ite, fin3_rt, fin3_nx, fin3_ite, Option.bind_some, Option.bind_none, List.getElem?_cons_zero, List.getElem?_cons_succ, List.set_cons_zero, List.set_cons_succ, vAdd, vSub, vMul, vMod, vFdiv, vPow, vLt, vLe, vGt, vGe, vEq, vNe, vEqB, vIs, vIsnt, DD.isN, vIx_tup, vIx_lst, vIx_frz, gLen_tup, gLen_lst, gLen_frz, gTuple_tup, gTuple_lst, gList_tup, gList_lst, gInt_int, gInt_bl, vSl, wipeE, if_true, if_false, Bool.false_eq_true, decide_eq_true_eq, List.length_cons, List.length_nil, finB_0, cl_non, cl_bl, cl_int, cl_str, cl_tup, cl_lst, cls_nil, cls_cons, gLen_str, ev_zip, ev_enum, ev_text, ev_range2, ev_sub, ev_dput, walked_tup, walked_lst, walked_str, cutL_1, Bool.and_true, Bool.true_and, Bool.not_true, Bool.not_false, Nat.reduceAdd, Nat.reduceLeDiff, n_take_last, Int.reduceLT]
    obtain ⟨v, f1, f2⟩ := nv_mod (l := [0, 1, 2, 7, 999]) (x := z) (by decide)
    have hv : v < 1000 := by
      simp only [List.mem_cons, List.not_mem_nil, or_false] at f2
      omega
    have f3 : atI [Val.int 0, .int 1, .int 2, .int 7, .int 999] (z % 5) = some (.int (v : Int)) := f1
    simp only [f3, ev_bin, ev_ix, ev_and, ev_or, ev_not, ev_neg, ev_tV, ev_tand, ev_tor, ev_tnot, ev_if, ev_chain, ev_acons, ev_tup, ev_lst, ev_new, ev_call, ev_osome, ev_sl, ev_meth, ev_kget, ev_comp, ev_compN, ev_iseq, ev_range1, ev_seq, ev_set, ev_drop, ev_ret, ev_xif, ev_for, fVar, fC, aNil, oNone, xNil, xRetN, fDict, eT, bind_ite, fin3_rt, fin3_nx, fin3_ite, Option.bind_some, Option.bind_none, List.getElem?_cons_zero, List.getElem?_cons_succ, List.set_cons_zero, List.set_cons_succ, vAdd, vSub, vMul, vMod, vFdiv, vPow, vLt, vLe, vGt, vGe, vEq, vNe, vEqB, vIs, vIsnt, DD.isN, vIx_tup, vIx_lst, vIx_frz, gLen_tup, gLen_lst, gLen_frz, gTuple_tup, gTuple_lst, gList_tup, gList_lst, gInt_int, gInt_bl, vSl, wipeE, if_true, if_false, Bool.false_eq_true, decide_eq_true_eq, List.length_cons, List.length_nil, finB_0, cl_non, cl_bl, cl_int, cl_str, cl_tup, cl_lst, cls_nil, cls_cons, gLen_str, ev_zip, ev_enum, ev_text, ev_range2, ev_sub, ev_dput, walked_tup, walked_lst, walked_str, cutL_1, Bool.and_true, Bool.true_and, Bool.not_true, Bool.not_false, Nat.reduceAdd, Nat.reduceLeDiff]
    exact ⟨.set r v, finB_1 (cr _ _ _), hr, hv⟩
  simp only [h3, if_false, ev_bin, ev_ix, ev_and, ev_or, ev_not, ev_neg, ev_tV, ev_tand, ev_tor, ev_tnot, ev_if, ev_chain, ev_acons, ev_tup, ev_lst, ev_new, ev_call, ev_osome, ev_sl, ev_meth, ev_kget, ev_comp, ev_compN, ev_iseq, ev_range1, ev_seq, ev_set, ev_drop, ev_ret, ev_xif, ev_for, fVar, fC, aNil, oNone, xNil, xRetN, fDict, eT, bind_ite, fin3_rt, fin3_nx, fin3_ite, Option.bind_some, Option.bind_none, List.getElem?_cons_zero, List.getElem?_cons_succ, List.set_cons_zero, List.set_cons_succ, vAdd, vSub, vMul, vMod, vFdiv, vPow, vLt, vLe, vGt, vGe, vEq, vNe, vEqB, vIs, vIsnt, DD.isN, vIx_tup, vIx_lst, vIx_frz, gLen_tup, gLen_lst, gLen_frz, gTuple_tup, gTuple_lst, gList_tup, gList_lst, gInt_int, gInt_bl, vSl, wipeE, if_true, if_false, Bool.false_eq_true, decide_eq_true_eq, List.length_cons, List.length_nil, finB_0, cl_non, cl_bl, cl_int, cl_str, cl_tup, cl_lst, cls_nil, cls_cons, gLen_str, ev_zip, ev_enum, ev_text, ev_range2, ev_sub, ev_dput, walked_tup, walked_lst, walked_str, cutL_1, Bool.and_true, Bool.true_and, Bool.not_true, Bool.not_false]
  by_cases h4 : kind < 13
  · simp only [h4, if_true, ev_bin, ev_ix, ev_and, ev_or, ev_not, ev_neg, ev_tV, ev_tand, ev_tor, ev_tnot, ev_if, ev_chain, ev_acons, ev_tup, ev_lst, ev_new, ev_call, ev_osome, ev_sl, ev_meth, ev_kget, ev_comp, ev_compN, ev_iseq, ev_range1, ev_seq, ev_set, ev_drop, ev_ret, ev_xif, ev_for, fVar, fC, aNil, oNone, xNil, xRetN, fDict, eT, bind_ite, fin3_rt, fin3_nx, fin3_ite, Option.bind_some, Option.bind_none, List.getElem?_cons_zero, List.getElem?_cons_succ, List.set_cons_zero, List.set_cons_succ, vAdd, vSub, vMul, vMod, vFdiv, vPow, vLt, vLe, vGt, vGe, vEq, vNe, vEqB, vIs, vIsnt, DD.isN, vIx_tup, vIx_lst, vIx_frz, gLen_tup, gLen_lst, gLen_frz, gTuple_tup, gTuple_lst, gList_tup, gList_lst, gInt_int, gInt_bl, vSl, wipeE, if_true, if_false, Bool.false_eq_true, decide_eq_true_eq, List.length_cons, List.length_nil, finB_0, cl_non, cl_bl, cl_int, cl_str, cl_tup, cl_lst, cls_nil, cls_cons, gLen_str, ev_zip, ev_enum, ev_text, ev_range2, ev_sub, ev_dput, walked_tup, walked_lst, walked_str, cutL_1, Bool.and_true, Bool.true_and, Bool.not_true, Bool.not_false, Nat.reduceAdd, Nat.reduceLeDiff, n_take_last, Int.reduceLT]
    obtain ⟨q, q0, q1⟩ := nat_of (x := z) (s := 4) (by decide)
    rw [q0]
    exact ⟨.add r q, finB_1 (cr _ _ _), hr, by omega⟩
  simp only [h4, if_false, ev_bin, ev_ix, ev_and, ev_or, ev_not, ev_neg, ev_tV, ev_tand, ev_tor, ev_tnot, ev_if, ev_chain, ev_acons, ev_tup, ev_lst, ev_new, ev_call, ev_osome, ev_sl, ev_meth, ev_kget, ev_comp, ev_compN, ev_iseq, ev_range1, ev_seq, ev_set, ev_drop, ev_ret, ev_xif, ev_for, fVar, fC, aNil, oNone, xNil, xRetN, fDict, eT, bind_ite, fin3_rt, fin3_nx, fin3_ite, Option.bind_some, Option.bind_none, List.getElem?_cons_zero, List.getElem?_cons_succ, List.set_cons_zero, List.set_cons_succ, vAdd, vSub, vMul, vMod, vFdiv, vPow, vLt, vLe, vGt, vGe, vEq, vNe, vEqB, vIs, vIsnt, DD.isN, vIx_tup, vIx_lst, vIx_frz, gLen_tup, gLen_lst, gLen_frz, gTuple_tup, gTuple_lst, gList_tup, gList_lst, gInt_int, gInt_bl, vSl, wipeE, if_true, if_false, Bool.false_eq_true, decide_eq_true_eq, List.length_cons, List.length_nil, finB_0, cl_non, cl_bl, cl_int, cl_str, cl_tup, cl_lst, cls_nil, cls_cons, gLen_str, ev_zip, ev_enum, ev_text, ev_range2, ev_sub, ev_dput, walked_tup, walked_lst, walked_str, cutL_1, Bool.and_true, Bool.true_and, Bool.not_true, Bool.not_false]
  by_cases h5 : kind = 13
  · simp only [h5, if_true, ev_bin, ev_ix, ev_and, ev_or, ev_not, ev_neg, ev_tV, ev_tand, ev_tor, ev_tnot, ev_if, ev_chain, ev_acons, ev_tup, ev_lst, ev_new, ev_call, ev_osome, ev_sl, ev_meth, ev_kget, ev_comp, ev_compN, ev_iseq, ev_range1, ev_seq, ev_set, ev_drop, ev_ret, ev_xif, ev_for, fVar, fC, aNil, oNone, xNil, xRetN, fDict, eT, bind_ite, fin3_rt, fin3_nx, fin3_ite, Option.bind_some, Option.bind_none, List.getElem?_cons_zero, List.getElem?_cons_succ, List.set_cons_zero, List.set_cons_succ, vAdd, vSub, vMul, vMod, vFdiv, vPow, vLt, vLe, vGt, vGe, vEq, vNe, vEqB, vIs, vIsnt, DD.isN, vIx_tup, vIx_lst, vIx_frz, gLen_tup, gLen_lst, gLen_frz, gTuple_tup, gTuple_lst, gList_tup, gList_lst, gInt_int, gInt_bl, vSl, wipeE, if_true, if_false, Bool.false_eq_true, decide_eq_true_eq, List.length_cons, List.length_nil, finB_0, cl_non, cl_bl, cl_int, cl_str, cl_tup, cl_lst, cls_nil, cls_cons, gLen_str, ev_zip, ev_enum, ev_text, ev_range2, ev_sub, ev_dput, walked_tup, walked_lst, walked_str, cutL_1, Bool.and_true, Bool.true_and, Bool.not_true, Bool.not_false, Nat.reduceAdd, Nat.reduceLeDiff]
    exact ⟨.answer r, finB_1 (c1 _ _), hr⟩
  simp only [h5, if_false, ev_bin, ev_ix, ev_and, ev_or, ev_not, ev_neg, ev_tV, ev_tand, ev_tor, ev_tnot, ev_if, ev_chain, ev_acons, ev_tup, ev_lst, ev_new, ev_call, ev_osome, ev_sl, ev_meth, ev_kget, ev_comp, ev_compN, ev_iseq, ev_range1, ev_seq, ev_set, ev_drop, ev_ret, ev_xif, ev_for, fVar, fC, aNil, oNone, xNil, xRetN, fDict, eT, bind_ite, fin3_rt, fin3_nx, fin3_ite, Option.bind_some, Option.bind_none, List.getElem?_cons_zero, List.getElem?_cons_succ, List.set_cons_zero, List.set_cons_succ, vAdd, vSub, vMul, vMod, vFdiv, vPow, vLt, vLe, vGt, vGe, vEq, vNe, vEqB, vIs, vIsnt, DD.isN, vIx_tup, vIx_lst, vIx_frz, gLen_tup, gLen_lst, gLen_frz, gTuple_tup, gTuple_lst, gList_tup, gList_lst, gInt_int, gInt_bl, vSl, wipeE, if_true, if_false, Bool.false_eq_true, decide_eq_true_eq, List.length_cons, List.length_nil, finB_0, cl_non, cl_bl, cl_int, cl_str, cl_tup, cl_lst, cls_nil, cls_cons, gLen_str, ev_zip, ev_enum, ev_text, ev_range2, ev_sub, ev_dput, walked_tup, walked_lst, walked_str, cutL_1, Bool.and_true, Bool.true_and, Bool.not_true, Bool.not_false]
  by_cases h6 : kind = 14
  · simp only [h6, if_true, ev_bin, ev_ix, ev_and, ev_or, ev_not, ev_neg, ev_tV, ev_tand, ev_tor, ev_tnot, ev_if, ev_chain, ev_acons, ev_tup, ev_lst, ev_new, ev_call, ev_osome, ev_sl, ev_meth, ev_kget, ev_comp, ev_compN, ev_iseq, ev_range1, ev_seq, ev_set, ev_drop, ev_ret, ev_xif, ev_for, fVar, fC, aNil, oNone, xNil, xRetN, fDict, eT, bind_ite, fin3_rt, fin3_nx, fin3_ite, Option.bind_some, Option.bind_none, List.getElem?_cons_zero, List.getElem?_cons_succ, List.set_cons_zero, List.set_cons_succ, vAdd, vSub, vMul, vMod, vFdiv, vPow, vLt, vLe, vGt, vGe, vEq, vNe, vEqB, vIs, vIsnt, DD.isN, vIx_tup, vIx_lst, vIx_frz, gLen_tup, gLen_lst, gLen_frz, gTuple_tup, gTuple_lst, gList_tup, gList_lst, gInt_int, gInt_bl, vSl, wipeE, if_true, if_false, Bool.false_eq_true, decide_eq_true_eq, List.length_cons, List.length_nil, finB_0, cl_non, cl_bl, cl_int, cl_str, cl_tup, cl_lst, cls_nil, cls_cons, gLen_str, ev_zip, ev_enum, ev_text, ev_range2, ev_sub, ev_dput, walked_tup, walked_lst, walked_str, cutL_1, Bool.and_true, Bool.true_and, Bool.not_true, Bool.not_false, Nat.reduceAdd, Nat.reduceLeDiff, n_take_last, Int.reduceLT]
    obtain ⟨q, q0, q1⟩ := nat_of (x := z) (s := 9) (by decide)
    rw [q0]
    exact ⟨.test r q, finB_1 (cr _ _ _), hr, by omega⟩
  simp only [h6, if_false, ev_bin, ev_ix, ev_and, ev_or, ev_not, ev_neg, ev_tV, ev_tand, ev_tor, ev_tnot, ev_if, ev_chain, ev_acons, ev_tup, ev_lst, ev_new, ev_call, ev_osome, ev_sl, ev_meth, ev_kget, ev_comp, ev_compN, ev_iseq, ev_range1, ev_seq, ev_set, ev_drop, ev_ret, ev_xif, ev_for, fVar, fC, aNil, oNone, xNil, xRetN, fDict, eT, bind_ite, fin3_rt, fin3_nx, fin3_ite, Option.bind_some, Option.bind_none, List.getElem?_cons_zero, List.getElem?_cons_succ, List.set_cons_zero, List.set_cons_succ, vAdd, vSub, vMul, vMod, vFdiv, vPow, vLt, vLe, vGt, vGe, vEq, vNe, vEqB, vIs, vIsnt, DD.isN, vIx_tup, vIx_lst, vIx_frz, gLen_tup, gLen_lst, gLen_frz, gTuple_tup, gTuple_lst, gList_tup, gList_lst, gInt_int, gInt_bl, vSl, wipeE, if_true, if_false, Bool.false_eq_true, decide_eq_true_eq, List.length_cons, List.length_nil, finB_0, cl_non, cl_bl, cl_int, cl_str, cl_tup, cl_lst, cls_nil, cls_cons, gLen_str, ev_zip, ev_enum, ev_text, ev_range2, ev_sub, ev_dput, walked_tup, walked_lst, walked_str, cutL_1, Bool.and_true, Bool.true_and, Bool.not_true, Bool.not_false]
  by_cases h7 : kind = 15
  · simp only [h7, if_true, ev_bin, ev_ix, ev_and, ev_or, ev_not, ev_neg, ev_tV, ev_tand, ev_tor, ev_tnot, ev_if, ev_chain, ev_acons, ev_tup, ev_lst, ev_new, ev_call, ev_osome, ev_sl, ev_meth, ev_kget, ev_comp, ev_compN, ev_iseq, ev_range1, ev_seq, ev_set, ev_drop, ev_ret, ev_xif, ev_for, fVar, fC, aNil, oNone, xNil, xRetN, fDict, eT, bind_ite, fin3_rt, fin3_nx, fin3_ite, Option.bind_some, Option.bind_none, List.getElem?_cons_zero, List.getElem?_cons_succ, List.set_cons_zero, List.set_cons_succ, vAdd, vSub, vMul, vMod, vFdiv, vPow, vLt, vLe, vGt, vGe, vEq, vNe, vEqB, vIs, vIsnt, DD.isN, vIx_tup, vIx_lst, vIx_frz, gLen_tup, gLen_lst, gLen_frz, gTuple_tup, gTuple_lst, gList_tup, gList_lst, gInt_int, gInt_bl, vSl, wipeE, if_true, if_false, Bool.false_eq_true, decide_eq_true_eq, List.length_cons, List.length_nil, finB_0, cl_non, cl_bl, cl_int, cl_str, cl_tup, cl_lst, cls_nil, cls_cons, gLen_str, ev_zip, ev_enum, ev_text, ev_range2, ev_sub, ev_dput, walked_tup, walked_lst, walked_str, cutL_1, Bool.and_true, Bool.true_and, Bool.not_true, Bool.not_false, Nat.reduceAdd, Nat.reduceLeDiff]
    exact ⟨.new s, finB_1 (c1 _ _), hs⟩
  simp only [h7, if_false, ev_bin, ev_ix, ev_and, ev_or, ev_not, ev_neg, ev_tV, ev_tand, ev_tor, ev_tnot, ev_if, ev_chain, ev_acons, ev_tup, ev_lst, ev_new, ev_call, ev_osome, ev_sl, ev_meth, ev_kget, ev_comp, ev_compN, ev_iseq, ev_range1, ev_seq, ev_set, ev_drop, ev_ret, ev_xif, ev_for, fVar, fC, aNil, oNone, xNil, xRetN, fDict, eT, bind_ite, fin3_rt, fin3_nx, fin3_ite, Option.bind_some, Option.bind_none, List.getElem?_cons_zero, List.getElem?_cons_succ, List.set_cons_zero, List.set_cons_succ, vAdd, vSub, vMul, vMod, vFdiv, vPow, vLt, vLe, vGt, vGe, vEq, vNe, vEqB, vIs, vIsnt, DD.isN, vIx_tup, vIx_lst, vIx_frz, gLen_tup, gLen_lst, gLen_frz, gTuple_tup, gTuple_lst, gList_tup, gList_lst, gInt_int, gInt_bl, vSl, wipeE, if_true, if_false, Bool.false_eq_true, decide_eq_true_eq, List.length_cons, List.length_nil, finB_0, cl_non, cl_bl, cl_int, cl_str, cl_tup, cl_lst, cls_nil, cls_cons, gLen_str, ev_zip, ev_enum, ev_text, ev_range2, ev_sub, ev_dput, walked_tup, walked_lst, walked_str, cutL_1, Bool.and_true, Bool.true_and, Bool.not_true, Bool.not_false]
  by_cases h8 : kind < 18
  · simp only [h8, if_true, ev_bin, ev_ix, ev_and, ev_or, ev_not, ev_neg, ev_tV, ev_tand, ev_tor, ev_tnot, ev_if, ev_chain, ev_acons, ev_tup, ev_lst, ev_new, ev_call, ev_osome, ev_sl, ev_meth, ev_kget, ev_comp, ev_compN, ev_iseq, ev_range1, ev_seq, ev_set, ev_drop, ev_ret, ev_xif, ev_for, fVar, fC, aNil, oNone, xNil, xRetN, fDict, eT, bind_ite, fin3_rt, fin3_nx, fin3_ite, Option.bind_some, Option.bind_none, List.getElem?_cons_zero, List.getElem?_cons_succ, List.set_cons_zero, List.set_cons_succ, vAdd, vSub, vMul, vMod, vFdiv, vPow, vLt, vLe, vGt, vGe, vEq, vNe, vEqB, vIs, vIsnt, DD.isN, vIx_tup, vIx_lst, vIx_frz, gLen_tup, gLen_lst, gLen_frz, gTuple_tup, gTuple_lst, gList_tup, gList_lst, gInt_int, gInt_bl, vSl, wipeE, if_true, if_false, Bool.false_eq_true, decide_eq_true_eq, List.length_cons, List.length_nil, finB_0, cl_non, cl_bl, cl_int, cl_str, cl_tup, cl_lst, cls_nil, cls_cons, gLen_str, ev_zip, ev_enum, ev_text, ev_range2, ev_sub, ev_dput, walked_tup, walked_lst, walked_str, cutL_1, Bool.and_true, Bool.true_and, Bool.not_true, Bool.not_false, Nat.reduceAdd, Nat.reduceLeDiff, nI]
    exact ⟨.give to s, finB_1 (cr _ _ _), hto, hs⟩
  simp only [h8, if_false, ev_bin, ev_ix, ev_and, ev_or, ev_not, ev_neg, ev_tV, ev_tand, ev_tor, ev_tnot, ev_if, ev_chain, ev_acons, ev_tup, ev_lst, ev_new, ev_call, ev_osome, ev_sl, ev_meth, ev_kget, ev_comp, ev_compN, ev_iseq, ev_range1, ev_seq, ev_set, ev_drop, ev_ret, ev_xif, ev_for, fVar, fC, aNil, oNone, xNil, xRetN, fDict, eT, bind_ite, fin3_rt, fin3_nx, fin3_ite, Option.bind_some, Option.bind_none, List.getElem?_cons_zero, List.getElem?_cons_succ, List.set_cons_zero, List.set_cons_succ, vAdd, vSub, vMul, vMod, vFdiv, vPow, vLt, vLe, vGt, vGe, vEq, vNe, vEqB, vIs, vIsnt, DD.isN, vIx_tup, vIx_lst, vIx_frz, gLen_tup, gLen_lst, gLen_frz, gTuple_tup, gTuple_lst, gList_tup, gList_lst, gInt_int, gInt_bl, vSl, wipeE, if_true, if_false, Bool.false_eq_true, decide_eq_true_eq, List.length_cons, List.length_nil, finB_0, cl_non, cl_bl, cl_int, cl_str, cl_tup, cl_lst, cls_nil, cls_cons, gLen_str, ev_zip, ev_enum, ev_text, ev_range2, ev_sub, ev_dput, walked_tup, walked_lst, walked_str, cutL_1, Bool.and_true, Bool.true_and, Bool.not_true, Bool.not_false]
  by_cases h9 : kind = 18
  · obtain ⟨y', l, g1, g2⟩ := n_crowd (st := st ++ [.list [.int z]]) (n := n) getElem?_append_self hc hc5
    simp only [h9, if_true, ev_bin, ev_ix, ev_and, ev_or, ev_not, ev_neg, ev_tV, ev_tand, ev_tor, ev_tnot, ev_if, ev_chain, ev_acons, ev_tup, ev_lst, ev_new, ev_call, ev_osome, ev_sl, ev_meth, ev_kget, ev_comp, ev_compN, ev_iseq, ev_range1, ev_seq, ev_set, ev_drop, ev_ret, ev_xif, ev_for, fVar, fC, aNil, oNone, xNil, xRetN, fDict, eT, bind_ite, fin3_rt, fin3_nx, fin3_ite, Option.bind_some, Option.bind_none, List.getElem?_cons_zero, List.getElem?_cons_succ, List.set_cons_zero, List.set_cons_succ, vAdd, vSub, vMul, vMod, vFdiv, vPow, vLt, vLe, vGt, vGe, vEq, vNe, vEqB, vIs, vIsnt, DD.isN, vIx_tup, vIx_lst, vIx_frz, gLen_tup, gLen_lst, gLen_frz, gTuple_tup, gTuple_lst, gList_tup, gList_lst, gInt_int, gInt_bl, vSl, wipeE, if_true, if_false, Bool.false_eq_true, decide_eq_true_eq, List.length_cons, List.length_nil, finB_0, cl_non, cl_bl, cl_int, cl_str, cl_tup, cl_lst, cls_nil, cls_cons, gLen_str, ev_zip, ev_enum, ev_text, ev_range2, ev_sub, ev_dput, walked_tup, walked_lst, walked_str, cutL_1, Bool.and_true, Bool.true_and, Bool.not_true, Bool.not_false, Nat.reduceAdd, Nat.reduceLeDiff, g1, set_append_self]
    exact ⟨.hold s l, finB_1 (cc _ _ _), hs, g2⟩
  simp only [h9, if_false, ev_bin, ev_ix, ev_and, ev_or, ev_not, ev_neg, ev_tV, ev_tand, ev_tor, ev_tnot, ev_if, ev_chain, ev_acons, ev_tup, ev_lst, ev_new, ev_call, ev_osome, ev_sl, ev_meth, ev_kget, ev_comp, ev_compN, ev_iseq, ev_range1, ev_seq, ev_set, ev_drop, ev_ret, ev_xif, ev_for, fVar, fC, aNil, oNone, xNil, xRetN, fDict, eT, bind_ite, fin3_rt, fin3_nx, fin3_ite, Option.bind_some, Option.bind_none, List.getElem?_cons_zero, List.getElem?_cons_succ, List.set_cons_zero, List.set_cons_succ, vAdd, vSub, vMul, vMod, vFdiv, vPow, vLt, vLe, vGt, vGe, vEq, vNe, vEqB, vIs, vIsnt, DD.isN, vIx_tup, vIx_lst, vIx_frz, gLen_tup, gLen_lst, gLen_frz, gTuple_tup, gTuple_lst, gList_tup, gList_lst, gInt_int, gInt_bl, vSl, wipeE, if_true, if_false, Bool.false_eq_true, decide_eq_true_eq, List.length_cons, List.length_nil, finB_0, cl_non, cl_bl, cl_int, cl_str, cl_tup, cl_lst, cls_nil, cls_cons, gLen_str, ev_zip, ev_enum, ev_text, ev_range2, ev_sub, ev_dput, walked_tup, walked_lst, walked_str, cutL_1, Bool.and_true, Bool.true_and, Bool.not_true, Bool.not_false]
  by_cases h10 : kind = 19
  · simp only [h10, if_true, ev_bin, ev_ix, ev_and, ev_or, ev_not, ev_neg, ev_tV, ev_tand, ev_tor, ev_tnot, ev_if, ev_chain, ev_acons, ev_tup, ev_lst, ev_new, ev_call, ev_osome, ev_sl, ev_meth, ev_kget, ev_comp, ev_compN, ev_iseq, ev_range1, ev_seq, ev_set, ev_drop, ev_ret, ev_xif, ev_for, fVar, fC, aNil, oNone, xNil, xRetN, fDict, eT, bind_ite, fin3_rt, fin3_nx, fin3_ite, Option.bind_some, Option.bind_none, List.getElem?_cons_zero, List.getElem?_cons_succ, List.set_cons_zero, List.set_cons_succ, vAdd, vSub, vMul, vMod, vFdiv, vPow, vLt, vLe, vGt, vGe, vEq, vNe, vEqB, vIs, vIsnt, DD.isN, vIx_tup, vIx_lst, vIx_frz, gLen_tup, gLen_lst, gLen_frz, gTuple_tup, gTuple_lst, gList_tup, gList_lst, gInt_int, gInt_bl, vSl, wipeE, if_true, if_false, Bool.false_eq_true, decide_eq_true_eq, List.length_cons, List.length_nil, finB_0, cl_non, cl_bl, cl_int, cl_str, cl_tup, cl_lst, cls_nil, cls_cons, gLen_str, ev_zip, ev_enum, ev_text, ev_range2, ev_sub, ev_dput, walked_tup, walked_lst, walked_str, cutL_1, Bool.and_true, Bool.true_and, Bool.not_true, Bool.not_false, Nat.reduceAdd, Nat.reduceLeDiff]
    exact ⟨.shw r, finB_1 (c1 _ _), hr⟩
  simp only [h10, if_false, ev_bin, ev_ix, ev_and, ev_or, ev_not, ev_neg, ev_tV, ev_tand, ev_tor, ev_tnot, ev_if, ev_chain, ev_acons, ev_tup, ev_lst, ev_new, ev_call, ev_osome, ev_sl, ev_meth, ev_kget, ev_comp, ev_compN, ev_iseq, ev_range1, ev_seq, ev_set, ev_drop, ev_ret, ev_xif, ev_for, fVar, fC, aNil, oNone, xNil, xRetN, fDict, eT, bind_ite, fin3_rt, fin3_nx, fin3_ite, Option.bind_some, Option.bind_none, List.getElem?_cons_zero, List.getElem?_cons_succ, List.set_cons_zero, List.set_cons_succ, vAdd, vSub, vMul, vMod, vFdiv, vPow, vLt, vLe, vGt, vGe, vEq, vNe, vEqB, vIs, vIsnt, DD.isN, vIx_tup, vIx_lst, vIx_frz, gLen_tup, gLen_lst, gLen_frz, gTuple_tup, gTuple_lst, gList_tup, gList_lst, gInt_int, gInt_bl, vSl, wipeE, if_true, if_false, Bool.false_eq_true, decide_eq_true_eq, List.length_cons, List.length_nil, finB_0, cl_non, cl_bl, cl_int, cl_str, cl_tup, cl_lst, cls_nil, cls_cons, gLen_str, ev_zip, ev_enum, ev_text, ev_range2, ev_sub, ev_dput, walked_tup, walked_lst, walked_str, cutL_1, Bool.and_true, Bool.true_and, Bool.not_true, Bool.not_false, Nat.reduceAdd, Nat.reduceLeDiff, n_take_last, Int.reduceLT]
  obtain ⟨v, f1, f2⟩ := atI_mod (l := [Val.tup [.str (Str.ofString "drop"), .int s], .tup [.str (Str.ofString "end")]]) (x := z) (by simp)
  have f3 : atI [Val.tup [.str (Str.ofString "drop"), .int s], .tup [.str (Str.ofString "end")]] (z % 2) = some v := f1
  simp only [f3, ev_bin, ev_ix, ev_and, ev_or, ev_not, ev_neg, ev_tV, ev_tand, ev_tor, ev_tnot, ev_if, ev_chain, ev_acons, ev_tup, ev_lst, ev_new, ev_call, ev_osome, ev_sl, ev_meth, ev_kget, ev_comp, ev_compN, ev_iseq, ev_range1, ev_seq, ev_set, ev_drop, ev_ret, ev_xif, ev_for, fVar, fC, aNil, oNone, xNil, xRetN, fDict, eT, bind_ite, fin3_rt, fin3_nx, fin3_ite, Option.bind_some, Option.bind_none, List.getElem?_cons_zero, List.getElem?_cons_succ, List.set_cons_zero, List.set_cons_succ, vAdd, vSub, vMul, vMod, vFdiv, vPow, vLt, vLe, vGt, vGe, vEq, vNe, vEqB, vIs, vIsnt, DD.isN, vIx_tup, vIx_lst, vIx_frz, gLen_tup, gLen_lst, gLen_frz, gTuple_tup, gTuple_lst, gList_tup, gList_lst, gInt_int, gInt_bl, vSl, wipeE, if_true, if_false, Bool.false_eq_true, decide_eq_true_eq, List.length_cons, List.length_nil, finB_0, cl_non, cl_bl, cl_int, cl_str, cl_tup, cl_lst, cls_nil, cls_cons, gLen_str, ev_zip, ev_enum, ev_text, ev_range2, ev_sub, ev_dput, walked_tup, walked_lst, walked_str, cutL_1, Bool.and_true, Bool.true_and, Bool.not_true, Bool.not_false]
  simp only [List.mem_cons, List.not_mem_nil, or_false] at f2
  rcases f2 with rfl | rfl
  · exact ⟨.drop s, finB_1 (c1 _ _), hs⟩
  · exact ⟨.fin, finB_1 (by simp only [cl_tup, cls_cons, cls_nil, cl_str, Bool.and_true]), trivial⟩
theorem n_code {x : Int} {most : Nat} (hc : 2 ≤ c) (hc5 : c ≤ 5) (hm : 2 ≤ most) (hm2 : most ≤ 15) : ∃ l : List Ins, g__law_code [.int x, .int (c : Int), .int (n : Int), .int (most : Int)] st = some (codeV l, st) ∧ (∀ i ∈ l, Ins.ok c n i) ∧ 2 ≤ l.length ∧ l.length ≤ most := by
  rw [gd__law_code]
  simp only [b__law_code, ev_bin, ev_ix, ev_and, ev_or, ev_not, ev_neg, ev_tV, ev_tand, ev_tor, ev_tnot, ev_if, ev_chain, ev_acons, ev_tup, ev_lst, ev_new, ev_call, ev_osome, ev_sl, ev_meth, ev_kget, ev_comp, ev_compN, ev_iseq, ev_range1, ev_seq, ev_set, ev_drop, ev_ret, ev_xif, ev_for, fVar, fC, aNil, oNone, xNil, xRetN, fDict, eT, bind_ite, fin3_rt, fin3_nx, fin3_ite, Option.bind_some, Option.bind_none, List.getElem?_cons_zero, List.getElem?_cons_succ, List.set_cons_zero, List.set_cons_succ, vAdd, vSub, vMul, vMod, vFdiv, vPow, vLt, vLe, vGt, vGe, vEq, vNe, vEqB, vIs, vIsnt, DD.isN, vIx_tup, vIx_lst, vIx_frz, gLen_tup, gLen_lst, gLen_frz, gTuple_tup, gTuple_lst, gList_tup, gList_lst, gInt_int, gInt_bl, vSl, wipeE, if_true, if_false, Bool.false_eq_true, decide_eq_true_eq, List.length_cons, List.length_nil, finB_0, cl_non, cl_bl, cl_int, cl_str, cl_tup, cl_lst, cls_nil, cls_cons, gLen_str, ev_zip, ev_enum, ev_text, ev_range2, ev_sub, ev_dput, walked_tup, walked_lst, walked_str, cutL_1, Bool.and_true, Bool.true_and, Bool.not_true, Bool.not_false, Nat.reduceAdd, Nat.reduceLeDiff, Nat.zero_le, n_take_last (show (0 : Int) < (most : Int) - 1 by omega) (show (most : Int) - 1 < 1073741824 by omega)]
  have q0 : 0 ≤ x % ((most : Int) - 1) := Int.emod_nonneg _ (by omega)
  have q1 : x % ((most : Int) - 1) < (most : Int) - 1 := Int.emod_lt_of_pos _ (by omega)
  generalize x % ((most : Int) - 1) = w at q0 q1
  generalize x / ((most : Int) - 1) = y
  rw [if_pos ⟨by omega, by omega⟩]
  obtain ⟨env', s', h1, l, o, rfl, rfl, h2, h3⟩ := loopF_inv (t := .one 5) (body := xDrop (fMeth "list" gAppend (fVar 4) (aCons (fCall g__law_instruction (aCons (fCall g__law_number (aCons (fLst (aCons (fVar 0) aNil)) (aCons (fBin vAdd (fC (.int 1)) (fVar 5)) aNil))) (aCons (fVar 1) (aCons (fVar 2) aNil)))) aNil)))
    (fun k env s => ∃ (l : List Ins) (o : Option Val), env = [some (.int x), some (.int (c : Int)), some (.int (n : Int)), some (.int (most : Int)), some (.ref st.length), o] ∧ s = (st ++ [Cell.list (l.map Ins.val)]) ++ [Cell.list [.int y]] ∧ l.length = k ∧ ∀ v ∈ l, Ins.ok c n v)
    (l := rng 0 (2 + w).toNat) (k := 0) (env := [some (.int x), some (.int (c : Int)), some (.int (n : Int)), some (.int (most : Int)), some (.ref st.length), none]) (st := (st ++ [Cell.list []]) ++ [Cell.list [.int y]]) ⟨[], none, rfl, rfl, rfl, fun v hv => by cases hv⟩ (by
    rintro i v env s hi ⟨l, o, rfl, rfl, hl, hg⟩
    have hlt : i < (2 + w).toNat := by
      have := (List.getElem?_eq_some_iff.mp hi).1
      rwa [rng_len] at this
    rw [rng_get hlt] at hi
    cases hi
    obtain ⟨z, hz⟩ := n_number (st := (st ++ [Cell.list (l.map Ins.val)]) ++ [Cell.list [.int y]]) (v := .lst [.int x]) (l := [.int x]) (k := 1 + (i : Int)) (.inr rfl) (fun w hw => ⟨x, by simpa using hw⟩)
    obtain ⟨v, hv, hd⟩ := n_instr (st := (st ++ [Cell.list (l.map Ins.val)]) ++ [Cell.list [.int y]]) (x := z) (n := n) hc hc5
    refine ⟨_, _, _, rfl, .inl ?_, ⟨l ++ [v], some (.int (i : Int)), rfl, rfl, by rw [List.length_append, hl]; rfl, fun u hu => ?_⟩⟩
    · simp only [ev_bin, ev_ix, ev_and, ev_or, ev_not, ev_neg, ev_tV, ev_tand, ev_tor, ev_tnot, ev_if, ev_chain, ev_acons, ev_tup, ev_lst, ev_new, ev_call, ev_osome, ev_sl, ev_meth, ev_kget, ev_comp, ev_compN, ev_iseq, ev_range1, ev_seq, ev_set, ev_drop, ev_ret, ev_xif, ev_for, fVar, fC, aNil, oNone, xNil, xRetN, fDict, eT, bind_ite, fin3_rt, fin3_nx, fin3_ite, Option.bind_some, Option.bind_none, List.getElem?_cons_zero, List.getElem?_cons_succ, List.set_cons_zero, List.set_cons_succ, vAdd, vSub, vMul, vMod, vFdiv, vPow, vLt, vLe, vGt, vGe, vEq, vNe, vEqB, vIs, vIsnt, DD.isN, vIx_tup, vIx_lst, vIx_frz, gLen_tup, gLen_lst, gLen_frz, gTuple_tup, gTuple_lst, gList_tup, gList_lst, gInt_int, gInt_bl, vSl, wipeE, if_true, if_false, Bool.false_eq_true, decide_eq_true_eq, List.length_cons, List.length_nil, finB_0, cl_non, cl_bl, cl_int, cl_str, cl_tup, cl_lst, cls_nil, cls_cons, gLen_str, ev_zip, ev_enum, ev_text, ev_range2, ev_sub, ev_dput, walked_tup, walked_lst, walked_str, cutL_1, Bool.and_true, Bool.true_and, Bool.not_true, Bool.not_false, recv_of get2, Nat.reduceAdd, Nat.reduceLeDiff, hz, hv]
      rw [append_eq get2 (by rw [List.length_map]; omega), set2, List.map_append]
      rfl
    · rcases List.mem_append.mp hu with hu | hu
      · exact hg u hu
      · rw [List.mem_singleton.mp hu]; exact hd)
  rw [h1]
  simp only [ev_bin, ev_ix, ev_and, ev_or, ev_not, ev_neg, ev_tV, ev_tand, ev_tor, ev_tnot, ev_if, ev_chain, ev_acons, ev_tup, ev_lst, ev_new, ev_call, ev_osome, ev_sl, ev_meth, ev_kget, ev_comp, ev_compN, ev_iseq, ev_range1, ev_seq, ev_set, ev_drop, ev_ret, ev_xif, ev_for, fVar, fC, aNil, oNone, xNil, xRetN, fDict, eT, bind_ite, fin3_rt, fin3_nx, fin3_ite, Option.bind_some, Option.bind_none, List.getElem?_cons_zero, List.getElem?_cons_succ, List.set_cons_zero, List.set_cons_succ, vAdd, vSub, vMul, vMod, vFdiv, vPow, vLt, vLe, vGt, vGe, vEq, vNe, vEqB, vIs, vIsnt, DD.isN, vIx_tup, vIx_lst, vIx_frz, gLen_tup, gLen_lst, gLen_frz, gTuple_tup, gTuple_lst, gList_tup, gList_lst, gInt_int, gInt_bl, vSl, wipeE, if_true, if_false, Bool.false_eq_true, decide_eq_true_eq, List.length_cons, List.length_nil, finB_0, cl_non, cl_bl, cl_int, cl_str, cl_tup, cl_lst, cls_nil, cls_cons, gLen_str, ev_zip, ev_enum, ev_text, ev_range2, ev_sub, ev_dput, walked_tup, walked_lst, walked_str, cutL_1, Bool.and_true, Bool.true_and, Bool.not_true, Bool.not_false, gTuple_ref get2]
  have hcl : cl 0 (codeV l) = true := okD_cl codeV_okD
  rw [rng_len] at h2
  exact ⟨l, finB_2 hcl, h3, by omega, by omega⟩
/-- programs that were drawn -/
def Drawn (p : List (List Ins)) : Prop := ∀ i (h : i < p.length), (∀ v ∈ p[i], Ins.ok p.length i v) ∧ 2 ≤ p[i].length ∧ p[i].length ≤ 15
theorem n_programs {x : Int} {least most size : Nat} (h1 : 2 ≤ least) (h2 : least ≤ most) (h3 : most ≤ 5) (hm : 2 ≤ size) (hm2 : size ≤ 15) : ∃ l, g__law_programs [.int x, .int (least : Int), .int (most : Int), .int (size : Int)] st = some (progsV l, st) ∧ Drawn l ∧ least ≤ l.length ∧ l.length ≤ most := by
  rw [gd__law_programs]
  simp only [b__law_programs, ev_bin, ev_ix, ev_and, ev_or, ev_not, ev_neg, ev_tV, ev_tand, ev_tor, ev_tnot, ev_if, ev_chain, ev_acons, ev_tup, ev_lst, ev_new, ev_call, ev_osome, ev_sl, ev_meth, ev_kget, ev_comp, ev_compN, ev_iseq, ev_range1, ev_seq, ev_set, ev_drop, ev_ret, ev_xif, ev_for, fVar, fC, aNil, oNone, xNil, xRetN, fDict, eT, bind_ite, fin3_rt, fin3_nx, fin3_ite, Option.bind_some, Option.bind_none, List.getElem?_cons_zero, List.getElem?_cons_succ, List.set_cons_zero, List.set_cons_succ, vAdd, vSub, vMul, vMod, vFdiv, vPow, vLt, vLe, vGt, vGe, vEq, vNe, vEqB, vIs, vIsnt, DD.isN, vIx_tup, vIx_lst, vIx_frz, gLen_tup, gLen_lst, gLen_frz, gTuple_tup, gTuple_lst, gList_tup, gList_lst, gInt_int, gInt_bl, vSl, wipeE, if_true, if_false, Bool.false_eq_true, decide_eq_true_eq, List.length_cons, List.length_nil, finB_0, cl_non, cl_bl, cl_int, cl_str, cl_tup, cl_lst, cls_nil, cls_cons, gLen_str, ev_zip, ev_enum, ev_text, ev_range2, ev_sub, ev_dput, walked_tup, walked_lst, walked_str, cutL_1, Bool.and_true, Bool.true_and, Bool.not_true, Bool.not_false, Nat.reduceAdd, Nat.reduceLeDiff, Nat.zero_le, n_take_last (show (0 : Int) < (most : Int) - (least : Int) + 1 by omega) (show (most : Int) - (least : Int) + 1 < 1073741824 by omega)]
  have q0 : 0 ≤ x % ((most : Int) - (least : Int) + 1) := Int.emod_nonneg _ (by omega)
  have q1 : x % ((most : Int) - (least : Int) + 1) < (most : Int) - (least : Int) + 1 := Int.emod_lt_of_pos _ (by omega)
  generalize x / ((most : Int) - (least : Int) + 1) = y
  obtain ⟨c, hw⟩ : ∃ c : Nat, (least : Int) + x % ((most : Int) - (least : Int) + 1) = (c : Int) := ⟨((least : Int) + x % ((most : Int) - (least : Int) + 1)).toNat, by omega⟩
  rw [hw]
  rw [if_pos ⟨by omega, by omega⟩]
  obtain ⟨env', s', g1, l, o, rfl, rfl, g2, g3⟩ := loopF_inv (t := .one 6) (body := xDrop (fMeth "list" gAppend (fVar 5) (aCons (fCall g__law_code (aCons (fCall g__law_number (aCons (fLst (aCons (fVar 0) aNil)) (aCons (fBin vAdd (fC (.int 40)) (fVar 6)) aNil))) (aCons (fVar 4) (aCons (fVar 6) (aCons (fVar 3) aNil))))) aNil)))
    (fun k env s => ∃ (l : List (List Ins)) (o : Option Val), env = [some (.int x), some (.int (least : Int)), some (.int (most : Int)), some (.int (size : Int)), some (.int (c : Int)), some (.ref (st ++ [Cell.list [.int y]]).length), o] ∧ s = (st ++ [Cell.list [.int y]]) ++ [Cell.list (l.map codeV)] ∧ l.length = k ∧ ∀ (i : Nat) (h : i < l.length), (∀ v ∈ l[i], Ins.ok c i v) ∧ 2 ≤ l[i].length ∧ l[i].length ≤ 15)
    (l := rng 0 (c : Int).toNat) (k := 0) (env := [some (.int x), some (.int (least : Int)), some (.int (most : Int)), some (.int (size : Int)), some (.int (c : Int)), some (.ref (st ++ [Cell.list [.int y]]).length), none]) (st := (st ++ [Cell.list [.int y]]) ++ [Cell.list []]) ⟨[], none, rfl, rfl, rfl, fun i hi => absurd hi (by simp)⟩ (by
    rintro i v env s hi ⟨l, o, rfl, rfl, hl, hg⟩
    have hlt : i < (c : Int).toNat := by
      have := (List.getElem?_eq_some_iff.mp hi).1
      rwa [rng_len] at this
    rw [rng_get hlt] at hi
    cases hi
    obtain ⟨z, hz⟩ := n_number (st := (st ++ [Cell.list [.int y]]) ++ [Cell.list (l.map codeV)]) (v := .lst [.int x]) (l := [.int x]) (k := 40 + (i : Int)) (.inr rfl) (fun w hw => ⟨x, by simpa using hw⟩)
    obtain ⟨v, hv, hd, hd2, hd3⟩ := n_code (st := (st ++ [Cell.list [.int y]]) ++ [Cell.list (l.map codeV)]) (x := z) (c := c) (n := i) (by omega) (by omega) hm hm2
    refine ⟨_, _, _, rfl, .inl ?_, ⟨l ++ [v], some (.int (i : Int)), rfl, rfl, by rw [List.length_append, hl]; rfl, fun u hu => ?_⟩⟩
    · simp only [ev_bin, ev_ix, ev_and, ev_or, ev_not, ev_neg, ev_tV, ev_tand, ev_tor, ev_tnot, ev_if, ev_chain, ev_acons, ev_tup, ev_lst, ev_new, ev_call, ev_osome, ev_sl, ev_meth, ev_kget, ev_comp, ev_compN, ev_iseq, ev_range1, ev_seq, ev_set, ev_drop, ev_ret, ev_xif, ev_for, fVar, fC, aNil, oNone, xNil, xRetN, fDict, eT, bind_ite, fin3_rt, fin3_nx, fin3_ite, Option.bind_some, Option.bind_none, List.getElem?_cons_zero, List.getElem?_cons_succ, List.set_cons_zero, List.set_cons_succ, vAdd, vSub, vMul, vMod, vFdiv, vPow, vLt, vLe, vGt, vGe, vEq, vNe, vEqB, vIs, vIsnt, DD.isN, vIx_tup, vIx_lst, vIx_frz, gLen_tup, gLen_lst, gLen_frz, gTuple_tup, gTuple_lst, gList_tup, gList_lst, gInt_int, gInt_bl, vSl, wipeE, if_true, if_false, Bool.false_eq_true, decide_eq_true_eq, List.length_cons, List.length_nil, finB_0, cl_non, cl_bl, cl_int, cl_str, cl_tup, cl_lst, cls_nil, cls_cons, gLen_str, ev_zip, ev_enum, ev_text, ev_range2, ev_sub, ev_dput, walked_tup, walked_lst, walked_str, cutL_1, Bool.and_true, Bool.true_and, Bool.not_true, Bool.not_false, recv_of getElem?_append_self, Nat.reduceAdd, Nat.reduceLeDiff, hz, hv]
      rw [append_eq getElem?_append_self (by rw [List.length_map]; omega), set_append_self, List.map_append]
      rfl
    · rw [List.length_append, List.length_singleton] at hu
      by_cases hul : u < l.length
      · rw [List.getElem_append_left hul]
        exact hg u hul
      · have hul2 : u = l.length := by omega
        have e : (l ++ [v])[u]'(by rw [List.length_append, List.length_singleton]; omega) = v := by
          rw [List.getElem_append_right (by omega)]
          simp
        rw [e, hul2, hl, Nat.zero_add]
        exact ⟨hd, hd2, by omega⟩)
  rw [g1]
  rw [rng_len, Nat.zero_add] at g2
  have hcl : c = l.length := by omega
  simp only [ev_bin, ev_ix, ev_and, ev_or, ev_not, ev_neg, ev_tV, ev_tand, ev_tor, ev_tnot, ev_if, ev_chain, ev_acons, ev_tup, ev_lst, ev_new, ev_call, ev_osome, ev_sl, ev_meth, ev_kget, ev_comp, ev_compN, ev_iseq, ev_range1, ev_seq, ev_set, ev_drop, ev_ret, ev_xif, ev_for, fVar, fC, aNil, oNone, xNil, xRetN, fDict, eT, bind_ite, fin3_rt, fin3_nx, fin3_ite, Option.bind_some, Option.bind_none, List.getElem?_cons_zero, List.getElem?_cons_succ, List.set_cons_zero, List.set_cons_succ, vAdd, vSub, vMul, vMod, vFdiv, vPow, vLt, vLe, vGt, vGe, vEq, vNe, vEqB, vIs, vIsnt, DD.isN, vIx_tup, vIx_lst, vIx_frz, gLen_tup, gLen_lst, gLen_frz, gTuple_tup, gTuple_lst, gList_tup, gList_lst, gInt_int, gInt_bl, vSl, wipeE, if_true, if_false, Bool.false_eq_true, decide_eq_true_eq, List.length_cons, List.length_nil, finB_0, cl_non, cl_bl, cl_int, cl_str, cl_tup, cl_lst, cls_nil, cls_cons, gLen_str, ev_zip, ev_enum, ev_text, ev_range2, ev_sub, ev_dput, walked_tup, walked_lst, walked_str, cutL_1, Bool.and_true, Bool.true_and, Bool.not_true, Bool.not_false, gTuple_ref getElem?_append_self]
  rw [hcl] at g3
  exact ⟨l, finB_2 (okD_cl progsV_okD), g3, by omega, by omega⟩
end
end K02

set_option Elab.async false
set_option linter.all false
set_option maxRecDepth 100000
set_option maxHeartbeats 4000000
/-! what the program's machine does, by states -/
namespace K02
open PySem L2 DD
section
variable {st : Store} {k : List Ins} {p : PS}
theorem n_is_ended : g_is_ended [codeV k, p.val] st = some (.bl (nextI k p).isNone, st) := by
  rw [gd_is_ended]
  simp only [b_is_ended, ev_bin, ev_ix, ev_and, ev_or, ev_not, ev_neg, ev_tV, ev_tand, ev_tor, ev_tnot, ev_if, ev_chain, ev_acons, ev_tup, ev_lst, ev_new, ev_call, ev_osome, ev_sl, ev_meth, ev_kget, ev_comp, ev_compN, ev_iseq, ev_range1, ev_seq, ev_set, ev_drop, ev_ret, ev_xif, ev_for, fVar, fC, aNil, oNone, xNil, xRetN, fDict, eT, bind_ite, fin3_rt, fin3_nx, fin3_ite, Option.bind_some, Option.bind_none, List.getElem?_cons_zero, List.getElem?_cons_succ, List.set_cons_zero, List.set_cons_succ, vAdd, vSub, vMul, vMod, vFdiv, vPow, vLt, vLe, vGt, vGe, vEq, vNe, vEqB, vIs, vIsnt, DD.isN, vIx_tup, vIx_lst, vIx_frz, gLen_tup, gLen_lst, gLen_frz, gTuple_tup, gTuple_lst, gList_tup, gList_lst, gInt_int, gInt_bl, vSl, wipeE, if_true, if_false, Bool.false_eq_true, decide_eq_true_eq, List.length_cons, List.length_nil, finB_0, cl_non, cl_bl, cl_int, cl_str, cl_tup, cl_lst, cls_nil, cls_cons, gLen_str, ev_zip, ev_enum, ev_text, ev_range2, ev_sub, ev_dput, walked_tup, walked_lst, walked_str, cutL_1, Bool.and_true, Bool.true_and, Bool.not_true, Bool.not_false, PS.val, codeV, nI, atI_zero, List.length_map]
  unfold nextI
  cases hk : k[p.at_]? with
  | none =>
    have h1 : ((k.length : Int) ≤ (p.at_ : Int)) := by have := List.getElem?_eq_none_iff.mp hk; omega
    simp only [h1, decide_true, ev_bin, ev_ix, ev_and, ev_or, ev_not, ev_neg, ev_tV, ev_tand, ev_tor, ev_tnot, ev_if, ev_chain, ev_acons, ev_tup, ev_lst, ev_new, ev_call, ev_osome, ev_sl, ev_meth, ev_kget, ev_comp, ev_compN, ev_iseq, ev_range1, ev_seq, ev_set, ev_drop, ev_ret, ev_xif, ev_for, fVar, fC, aNil, oNone, xNil, xRetN, fDict, eT, bind_ite, fin3_rt, fin3_nx, fin3_ite, Option.bind_some, Option.bind_none, List.getElem?_cons_zero, List.getElem?_cons_succ, List.set_cons_zero, List.set_cons_succ, vAdd, vSub, vMul, vMod, vFdiv, vPow, vLt, vLe, vGt, vGe, vEq, vNe, vEqB, vIs, vIsnt, DD.isN, vIx_tup, vIx_lst, vIx_frz, gLen_tup, gLen_lst, gLen_frz, gTuple_tup, gTuple_lst, gList_tup, gList_lst, gInt_int, gInt_bl, vSl, wipeE, if_true, if_false, Bool.false_eq_true, decide_eq_true_eq, List.length_cons, List.length_nil, finB_0, cl_non, cl_bl, cl_int, cl_str, cl_tup, cl_lst, cls_nil, cls_cons, gLen_str, ev_zip, ev_enum, ev_text, ev_range2, ev_sub, ev_dput, walked_tup, walked_lst, walked_str, cutL_1, Bool.and_true, Bool.true_and, Bool.not_true, Bool.not_false, Option.isNone_none]
  | some i =>
    have h1 : ¬ ((k.length : Int) ≤ (p.at_ : Int)) := by have := (List.getElem?_eq_some_iff.mp hk).1; omega
    have h2 : ((40 : Int) ≤ (p.acts : Int)) = (40 ≤ p.acts) := by apply propext; omega
    simp only [h1, decide_false, ev_bin, ev_ix, ev_and, ev_or, ev_not, ev_neg, ev_tV, ev_tand, ev_tor, ev_tnot, ev_if, ev_chain, ev_acons, ev_tup, ev_lst, ev_new, ev_call, ev_osome, ev_sl, ev_meth, ev_kget, ev_comp, ev_compN, ev_iseq, ev_range1, ev_seq, ev_set, ev_drop, ev_ret, ev_xif, ev_for, fVar, fC, aNil, oNone, xNil, xRetN, fDict, eT, bind_ite, fin3_rt, fin3_nx, fin3_ite, Option.bind_some, Option.bind_none, List.getElem?_cons_zero, List.getElem?_cons_succ, List.set_cons_zero, List.set_cons_succ, vAdd, vSub, vMul, vMod, vFdiv, vPow, vLt, vLe, vGt, vGe, vEq, vNe, vEqB, vIs, vIsnt, DD.isN, vIx_tup, vIx_lst, vIx_frz, gLen_tup, gLen_lst, gLen_frz, gTuple_tup, gTuple_lst, gList_tup, gList_lst, gInt_int, gInt_bl, vSl, wipeE, if_true, if_false, Bool.false_eq_true, decide_eq_true_eq, List.length_cons, List.length_nil, finB_0, cl_non, cl_bl, cl_int, cl_str, cl_tup, cl_lst, cls_nil, cls_cons, gLen_str, ev_zip, ev_enum, ev_text, ev_range2, ev_sub, ev_dput, walked_tup, walked_lst, walked_str, cutL_1, Bool.and_true, Bool.true_and, Bool.not_true, Bool.not_false, atI_nat', List.getElem?_map, hk, Option.map_some]
    by_cases h40 : 40 ≤ p.acts
    · cases i <;> simp only [Ins.val, sV, nI, ev_bin, ev_ix, ev_and, ev_or, ev_not, ev_neg, ev_tV, ev_tand, ev_tor, ev_tnot, ev_if, ev_chain, ev_acons, ev_tup, ev_lst, ev_new, ev_call, ev_osome, ev_sl, ev_meth, ev_kget, ev_comp, ev_compN, ev_iseq, ev_range1, ev_seq, ev_set, ev_drop, ev_ret, ev_xif, ev_for, fVar, fC, aNil, oNone, xNil, xRetN, fDict, eT, bind_ite, fin3_rt, fin3_nx, fin3_ite, Option.bind_some, Option.bind_none, List.getElem?_cons_zero, List.getElem?_cons_succ, List.set_cons_zero, List.set_cons_succ, vAdd, vSub, vMul, vMod, vFdiv, vPow, vLt, vLe, vGt, vGe, vEq, vNe, vEqB, vIs, vIsnt, DD.isN, vIx_tup, vIx_lst, vIx_frz, gLen_tup, gLen_lst, gLen_frz, gTuple_tup, gTuple_lst, gList_tup, gList_lst, gInt_int, gInt_bl, vSl, wipeE, if_true, if_false, Bool.false_eq_true, decide_eq_true_eq, List.length_cons, List.length_nil, finB_0, cl_non, cl_bl, cl_int, cl_str, cl_tup, cl_lst, cls_nil, cls_cons, gLen_str, ev_zip, ev_enum, ev_text, ev_range2, ev_sub, ev_dput, walked_tup, walked_lst, walked_str, cutL_1, Bool.and_true, Bool.true_and, Bool.not_true, Bool.not_false, atI_zero, ofString_inj, String.reduceEq, decide_true, decide_false, isFin, atI_5, h2, h40, or_true, or_false, Option.isNone_none, Option.isNone_some]
    · cases i <;> simp only [Ins.val, sV, nI, ev_bin, ev_ix, ev_and, ev_or, ev_not, ev_neg, ev_tV, ev_tand, ev_tor, ev_tnot, ev_if, ev_chain, ev_acons, ev_tup, ev_lst, ev_new, ev_call, ev_osome, ev_sl, ev_meth, ev_kget, ev_comp, ev_compN, ev_iseq, ev_range1, ev_seq, ev_set, ev_drop, ev_ret, ev_xif, ev_for, fVar, fC, aNil, oNone, xNil, xRetN, fDict, eT, bind_ite, fin3_rt, fin3_nx, fin3_ite, Option.bind_some, Option.bind_none, List.getElem?_cons_zero, List.getElem?_cons_succ, List.set_cons_zero, List.set_cons_succ, vAdd, vSub, vMul, vMod, vFdiv, vPow, vLt, vLe, vGt, vGe, vEq, vNe, vEqB, vIs, vIsnt, DD.isN, vIx_tup, vIx_lst, vIx_frz, gLen_tup, gLen_lst, gLen_frz, gTuple_tup, gTuple_lst, gList_tup, gList_lst, gInt_int, gInt_bl, vSl, wipeE, if_true, if_false, Bool.false_eq_true, decide_eq_true_eq, List.length_cons, List.length_nil, finB_0, cl_non, cl_bl, cl_int, cl_str, cl_tup, cl_lst, cls_nil, cls_cons, gLen_str, ev_zip, ev_enum, ev_text, ev_range2, ev_sub, ev_dput, walked_tup, walked_lst, walked_str, cutL_1, Bool.and_true, Bool.true_and, Bool.not_true, Bool.not_false, atI_zero, ofString_inj, String.reduceEq, decide_true, decide_false, isFin, atI_5, h2, h40, or_true, or_false, Option.isNone_none, Option.isNone_some]
theorem next_get {i : Ins} (h : nextI k p = some i) : k[p.at_]? = some i := by
  unfold nextI at h
  split at h
  · cases h
  · rename_i j hj
    split at h
    · cases h
    · cases h; exact hj
theorem n_crowd_of : g_crowd_of [codeV k, p.val] st = some (crowdV ((nextI k p).bind crowdOf), st) := by
  rw [gd_crowd_of]
  simp only [b_crowd_of, ev_bin, ev_ix, ev_and, ev_or, ev_not, ev_neg, ev_tV, ev_tand, ev_tor, ev_tnot, ev_if, ev_chain, ev_acons, ev_tup, ev_lst, ev_new, ev_call, ev_osome, ev_sl, ev_meth, ev_kget, ev_comp, ev_compN, ev_iseq, ev_range1, ev_seq, ev_set, ev_drop, ev_ret, ev_xif, ev_for, fVar, fC, aNil, oNone, xNil, xRetN, fDict, eT, bind_ite, fin3_rt, fin3_nx, fin3_ite, Option.bind_some, Option.bind_none, List.getElem?_cons_zero, List.getElem?_cons_succ, List.set_cons_zero, List.set_cons_succ, vAdd, vSub, vMul, vMod, vFdiv, vPow, vLt, vLe, vGt, vGe, vEq, vNe, vEqB, vIs, vIsnt, DD.isN, vIx_tup, vIx_lst, vIx_frz, gLen_tup, gLen_lst, gLen_frz, gTuple_tup, gTuple_lst, gList_tup, gList_lst, gInt_int, gInt_bl, vSl, wipeE, if_true, if_false, Bool.false_eq_true, decide_eq_true_eq, List.length_cons, List.length_nil, finB_0, cl_non, cl_bl, cl_int, cl_str, cl_tup, cl_lst, cls_nil, cls_cons, gLen_str, ev_zip, ev_enum, ev_text, ev_range2, ev_sub, ev_dput, walked_tup, walked_lst, walked_str, cutL_1, Bool.and_true, Bool.true_and, Bool.not_true, Bool.not_false, n_is_ended]
  cases hn : nextI k p with
  | none => simp only [Option.isNone_none, ev_bin, ev_ix, ev_and, ev_or, ev_not, ev_neg, ev_tV, ev_tand, ev_tor, ev_tnot, ev_if, ev_chain, ev_acons, ev_tup, ev_lst, ev_new, ev_call, ev_osome, ev_sl, ev_meth, ev_kget, ev_comp, ev_compN, ev_iseq, ev_range1, ev_seq, ev_set, ev_drop, ev_ret, ev_xif, ev_for, fVar, fC, aNil, oNone, xNil, xRetN, fDict, eT, bind_ite, fin3_rt, fin3_nx, fin3_ite, Option.bind_some, Option.bind_none, List.getElem?_cons_zero, List.getElem?_cons_succ, List.set_cons_zero, List.set_cons_succ, vAdd, vSub, vMul, vMod, vFdiv, vPow, vLt, vLe, vGt, vGe, vEq, vNe, vEqB, vIs, vIsnt, DD.isN, vIx_tup, vIx_lst, vIx_frz, gLen_tup, gLen_lst, gLen_frz, gTuple_tup, gTuple_lst, gList_tup, gList_lst, gInt_int, gInt_bl, vSl, wipeE, if_true, if_false, Bool.false_eq_true, decide_eq_true_eq, List.length_cons, List.length_nil, finB_0, cl_non, cl_bl, cl_int, cl_str, cl_tup, cl_lst, cls_nil, cls_cons, gLen_str, ev_zip, ev_enum, ev_text, ev_range2, ev_sub, ev_dput, walked_tup, walked_lst, walked_str, cutL_1, Bool.and_true, Bool.true_and, Bool.not_true, Bool.not_false, Option.bind_none, crowdV]
  | some i =>
    have hk := next_get hn
    simp only [Option.isNone_some, ev_bin, ev_ix, ev_and, ev_or, ev_not, ev_neg, ev_tV, ev_tand, ev_tor, ev_tnot, ev_if, ev_chain, ev_acons, ev_tup, ev_lst, ev_new, ev_call, ev_osome, ev_sl, ev_meth, ev_kget, ev_comp, ev_compN, ev_iseq, ev_range1, ev_seq, ev_set, ev_drop, ev_ret, ev_xif, ev_for, fVar, fC, aNil, oNone, xNil, xRetN, fDict, eT, bind_ite, fin3_rt, fin3_nx, fin3_ite, Option.bind_some, Option.bind_none, List.getElem?_cons_zero, List.getElem?_cons_succ, List.set_cons_zero, List.set_cons_succ, vAdd, vSub, vMul, vMod, vFdiv, vPow, vLt, vLe, vGt, vGe, vEq, vNe, vEqB, vIs, vIsnt, DD.isN, vIx_tup, vIx_lst, vIx_frz, gLen_tup, gLen_lst, gLen_frz, gTuple_tup, gTuple_lst, gList_tup, gList_lst, gInt_int, gInt_bl, vSl, wipeE, if_true, if_false, Bool.false_eq_true, decide_eq_true_eq, List.length_cons, List.length_nil, finB_0, cl_non, cl_bl, cl_int, cl_str, cl_tup, cl_lst, cls_nil, cls_cons, gLen_str, ev_zip, ev_enum, ev_text, ev_range2, ev_sub, ev_dput, walked_tup, walked_lst, walked_str, cutL_1, Bool.and_true, Bool.true_and, Bool.not_true, Bool.not_false, PS.val, codeV, nI, atI_zero, atI_nat', List.getElem?_map, hk, Option.map_some]
    cases i <;> simp only [Ins.val, sV, nI, ev_bin, ev_ix, ev_and, ev_or, ev_not, ev_neg, ev_tV, ev_tand, ev_tor, ev_tnot, ev_if, ev_chain, ev_acons, ev_tup, ev_lst, ev_new, ev_call, ev_osome, ev_sl, ev_meth, ev_kget, ev_comp, ev_compN, ev_iseq, ev_range1, ev_seq, ev_set, ev_drop, ev_ret, ev_xif, ev_for, fVar, fC, aNil, oNone, xNil, xRetN, fDict, eT, bind_ite, fin3_rt, fin3_nx, fin3_ite, Option.bind_some, Option.bind_none, List.getElem?_cons_zero, List.getElem?_cons_succ, List.set_cons_zero, List.set_cons_succ, vAdd, vSub, vMul, vMod, vFdiv, vPow, vLt, vLe, vGt, vGe, vEq, vNe, vEqB, vIs, vIsnt, DD.isN, vIx_tup, vIx_lst, vIx_frz, gLen_tup, gLen_lst, gLen_frz, gTuple_tup, gTuple_lst, gList_tup, gList_lst, gInt_int, gInt_bl, vSl, wipeE, if_true, if_false, Bool.false_eq_true, decide_eq_true_eq, List.length_cons, List.length_nil, finB_0, cl_non, cl_bl, cl_int, cl_str, cl_tup, cl_lst, cls_nil, cls_cons, gLen_str, ev_zip, ev_enum, ev_text, ev_range2, ev_sub, ev_dput, walked_tup, walked_lst, walked_str, cutL_1, Bool.and_true, Bool.true_and, Bool.not_true, Bool.not_false, atI_zero, atI_2, Nat.reduceAdd, Nat.reduceLeDiff, vNotIn_t2, ofString_inj, String.reduceEq, decide_true, decide_false, Bool.or_false, Bool.or_true, Bool.false_or, Bool.true_or, crowdOf, crowdV, Option.bind_some, nv_cl, atI_nat', List.getElem?_map, hk, Option.map_some]
theorem n_first_item {box : List (Nat × Pay)} {c : List Nat} (hb : box.length ≤ 4096) : g_first_item [.tup (box.map itemV), .tup (nv c)] st = some (optV (firstOf box c), st) := by
  rw [gd_first_item]
  simp only [b_first_item, ev_bin, ev_ix, ev_and, ev_or, ev_not, ev_neg, ev_tV, ev_tand, ev_tor, ev_tnot, ev_if, ev_chain, ev_acons, ev_tup, ev_lst, ev_new, ev_call, ev_osome, ev_sl, ev_meth, ev_kget, ev_comp, ev_compN, ev_iseq, ev_range1, ev_seq, ev_set, ev_drop, ev_ret, ev_xif, ev_for, fVar, fC, aNil, oNone, xNil, xRetN, fDict, eT, bind_ite, fin3_rt, fin3_nx, fin3_ite, Option.bind_some, Option.bind_none, List.getElem?_cons_zero, List.getElem?_cons_succ, List.set_cons_zero, List.set_cons_succ, vAdd, vSub, vMul, vMod, vFdiv, vPow, vLt, vLe, vGt, vGe, vEq, vNe, vEqB, vIs, vIsnt, DD.isN, vIx_tup, vIx_lst, vIx_frz, gLen_tup, gLen_lst, gLen_frz, gTuple_tup, gTuple_lst, gList_tup, gList_lst, gInt_int, gInt_bl, vSl, wipeE, if_true, if_false, Bool.false_eq_true, decide_eq_true_eq, List.length_cons, List.length_nil, finB_0, cl_non, cl_bl, cl_int, cl_str, cl_tup, cl_lst, cls_nil, cls_cons, gLen_str, ev_zip, ev_enum, ev_text, ev_range2, ev_sub, ev_dput, walked_tup, walked_lst, walked_str, cutL_1, Bool.and_true, Bool.true_and, Bool.not_true, Bool.not_false, idx_enum]
  obtain ⟨env', ⟨o1, o2, rfl⟩, h⟩ := loopF_find (t := .many [2, 3]) (body := xIf (tV (fBin vIn (fIx vIx (fVar 3) (fC (.int 0))) (fVar 1))) (xRet (fVar 2)) xNil) (st := st) (fun i x => .tup [nI i, itemV x]) (fun x : Nat × Pay => decide (x.1 ∈ c)) nI (fun env => ∃ o1 o2, env = [some (.tup (box.map itemV)), some (.tup (nv c)), o1, o2]) (l := box) (env := [some (.tup (box.map itemV)), some (.tup (nv c)), none, none]) ⟨none, none, rfl⟩ (by
    rintro i x env hx ⟨o1, o2, rfl⟩
    refine ⟨_, _, rfl, ⟨some (nI i), some (itemV x), rfl⟩, ?_⟩
    simp only [ev_bin, ev_ix, ev_and, ev_or, ev_not, ev_neg, ev_tV, ev_tand, ev_tor, ev_tnot, ev_if, ev_chain, ev_acons, ev_tup, ev_lst, ev_new, ev_call, ev_osome, ev_sl, ev_meth, ev_kget, ev_comp, ev_compN, ev_iseq, ev_range1, ev_seq, ev_set, ev_drop, ev_ret, ev_xif, ev_for, fVar, fC, aNil, oNone, xNil, xRetN, fDict, eT, bind_ite, fin3_rt, fin3_nx, fin3_ite, Option.bind_some, Option.bind_none, List.getElem?_cons_zero, List.getElem?_cons_succ, List.set_cons_zero, List.set_cons_succ, vAdd, vSub, vMul, vMod, vFdiv, vPow, vLt, vLe, vGt, vGe, vEq, vNe, vEqB, vIs, vIsnt, DD.isN, vIx_tup, vIx_lst, vIx_frz, gLen_tup, gLen_lst, gLen_frz, gTuple_tup, gTuple_lst, gList_tup, gList_lst, gInt_int, gInt_bl, vSl, wipeE, if_true, if_false, Bool.false_eq_true, decide_eq_true_eq, List.length_cons, List.length_nil, finB_0, cl_non, cl_bl, cl_int, cl_str, cl_tup, cl_lst, cls_nil, cls_cons, gLen_str, ev_zip, ev_enum, ev_text, ev_range2, ev_sub, ev_dput, walked_tup, walked_lst, walked_str, cutL_1, Bool.and_true, Bool.true_and, Bool.not_true, Bool.not_false, sets, itemV, nI, atI_zero, vIn_nv]
    by_cases hm : x.1 ∈ c <;> simp only [hm, decide_true, decide_false, ev_bin, ev_ix, ev_and, ev_or, ev_not, ev_neg, ev_tV, ev_tand, ev_tor, ev_tnot, ev_if, ev_chain, ev_acons, ev_tup, ev_lst, ev_new, ev_call, ev_osome, ev_sl, ev_meth, ev_kget, ev_comp, ev_compN, ev_iseq, ev_range1, ev_seq, ev_set, ev_drop, ev_ret, ev_xif, ev_for, fVar, fC, aNil, oNone, xNil, xRetN, fDict, eT, bind_ite, fin3_rt, fin3_nx, fin3_ite, Option.bind_some, Option.bind_none, List.getElem?_cons_zero, List.getElem?_cons_succ, List.set_cons_zero, List.set_cons_succ, vAdd, vSub, vMul, vMod, vFdiv, vPow, vLt, vLe, vGt, vGe, vEq, vNe, vEqB, vIs, vIsnt, DD.isN, vIx_tup, vIx_lst, vIx_frz, gLen_tup, gLen_lst, gLen_frz, gTuple_tup, gTuple_lst, gList_tup, gList_lst, gInt_int, gInt_bl, vSl, wipeE, if_true, if_false, Bool.false_eq_true, decide_eq_true_eq, List.length_cons, List.length_nil, finB_0, cl_non, cl_bl, cl_int, cl_str, cl_tup, cl_lst, cls_nil, cls_cons, gLen_str, ev_zip, ev_enum, ev_text, ev_range2, ev_sub, ev_dput, walked_tup, walked_lst, walked_str, cutL_1, Bool.and_true, Bool.true_and, Bool.not_true, Bool.not_false])
  rw [h]
  unfold firstOf
  cases box.findIdx? fun x => decide (x.1 ∈ c) with
  | none => simp only [ev_bin, ev_ix, ev_and, ev_or, ev_not, ev_neg, ev_tV, ev_tand, ev_tor, ev_tnot, ev_if, ev_chain, ev_acons, ev_tup, ev_lst, ev_new, ev_call, ev_osome, ev_sl, ev_meth, ev_kget, ev_comp, ev_compN, ev_iseq, ev_range1, ev_seq, ev_set, ev_drop, ev_ret, ev_xif, ev_for, fVar, fC, aNil, oNone, xNil, xRetN, fDict, eT, bind_ite, fin3_rt, fin3_nx, fin3_ite, Option.bind_some, Option.bind_none, List.getElem?_cons_zero, List.getElem?_cons_succ, List.set_cons_zero, List.set_cons_succ, vAdd, vSub, vMul, vMod, vFdiv, vPow, vLt, vLe, vGt, vGe, vEq, vNe, vEqB, vIs, vIsnt, DD.isN, vIx_tup, vIx_lst, vIx_frz, gLen_tup, gLen_lst, gLen_frz, gTuple_tup, gTuple_lst, gList_tup, gList_lst, gInt_int, gInt_bl, vSl, wipeE, if_true, if_false, Bool.false_eq_true, decide_eq_true_eq, List.length_cons, List.length_nil, finB_0, cl_non, cl_bl, cl_int, cl_str, cl_tup, cl_lst, cls_nil, cls_cons, gLen_str, ev_zip, ev_enum, ev_text, ev_range2, ev_sub, ev_dput, walked_tup, walked_lst, walked_str, cutL_1, Bool.and_true, Bool.true_and, Bool.not_true, Bool.not_false, optV]
  | some j => simp only [ev_bin, ev_ix, ev_and, ev_or, ev_not, ev_neg, ev_tV, ev_tand, ev_tor, ev_tnot, ev_if, ev_chain, ev_acons, ev_tup, ev_lst, ev_new, ev_call, ev_osome, ev_sl, ev_meth, ev_kget, ev_comp, ev_compN, ev_iseq, ev_range1, ev_seq, ev_set, ev_drop, ev_ret, ev_xif, ev_for, fVar, fC, aNil, oNone, xNil, xRetN, fDict, eT, bind_ite, fin3_rt, fin3_nx, fin3_ite, Option.bind_some, Option.bind_none, List.getElem?_cons_zero, List.getElem?_cons_succ, List.set_cons_zero, List.set_cons_succ, vAdd, vSub, vMul, vMod, vFdiv, vPow, vLt, vLe, vGt, vGe, vEq, vNe, vEqB, vIs, vIsnt, DD.isN, vIx_tup, vIx_lst, vIx_frz, gLen_tup, gLen_lst, gLen_frz, gTuple_tup, gTuple_lst, gList_tup, gList_lst, gInt_int, gInt_bl, vSl, wipeE, if_true, if_false, Bool.false_eq_true, decide_eq_true_eq, List.length_cons, List.length_nil, finB_0, cl_non, cl_bl, cl_int, cl_str, cl_tup, cl_lst, cls_nil, cls_cons, gLen_str, ev_zip, ev_enum, ev_text, ev_range2, ev_sub, ev_dput, walked_tup, walked_lst, walked_str, cutL_1, Bool.and_true, Bool.true_and, Bool.not_true, Bool.not_false, optV, nI]
theorem n_waits_for (hp : p.box.length ≤ 4096) : g_waits_for [codeV k, p.val] st = some (crowdV (waitsN k p), st) := by
  rw [gd_waits_for]
  simp only [b_waits_for, ev_bin, ev_ix, ev_and, ev_or, ev_not, ev_neg, ev_tV, ev_tand, ev_tor, ev_tnot, ev_if, ev_chain, ev_acons, ev_tup, ev_lst, ev_new, ev_call, ev_osome, ev_sl, ev_meth, ev_kget, ev_comp, ev_compN, ev_iseq, ev_range1, ev_seq, ev_set, ev_drop, ev_ret, ev_xif, ev_for, fVar, fC, aNil, oNone, xNil, xRetN, fDict, eT, bind_ite, fin3_rt, fin3_nx, fin3_ite, Option.bind_some, Option.bind_none, List.getElem?_cons_zero, List.getElem?_cons_succ, List.set_cons_zero, List.set_cons_succ, vAdd, vSub, vMul, vMod, vFdiv, vPow, vLt, vLe, vGt, vGe, vEq, vNe, vEqB, vIs, vIsnt, DD.isN, vIx_tup, vIx_lst, vIx_frz, gLen_tup, gLen_lst, gLen_frz, gTuple_tup, gTuple_lst, gList_tup, gList_lst, gInt_int, gInt_bl, vSl, wipeE, if_true, if_false, Bool.false_eq_true, decide_eq_true_eq, List.length_cons, List.length_nil, finB_0, cl_non, cl_bl, cl_int, cl_str, cl_tup, cl_lst, cls_nil, cls_cons, gLen_str, ev_zip, ev_enum, ev_text, ev_range2, ev_sub, ev_dput, walked_tup, walked_lst, walked_str, cutL_1, Bool.and_true, Bool.true_and, Bool.not_true, Bool.not_false, n_crowd_of]
  unfold waitsN
  cases hn : nextI k p with
  | none => simp only [Option.bind_none, crowdV, ev_bin, ev_ix, ev_and, ev_or, ev_not, ev_neg, ev_tV, ev_tand, ev_tor, ev_tnot, ev_if, ev_chain, ev_acons, ev_tup, ev_lst, ev_new, ev_call, ev_osome, ev_sl, ev_meth, ev_kget, ev_comp, ev_compN, ev_iseq, ev_range1, ev_seq, ev_set, ev_drop, ev_ret, ev_xif, ev_for, fVar, fC, aNil, oNone, xNil, xRetN, fDict, eT, bind_ite, fin3_rt, fin3_nx, fin3_ite, Option.bind_some, Option.bind_none, List.getElem?_cons_zero, List.getElem?_cons_succ, List.set_cons_zero, List.set_cons_succ, vAdd, vSub, vMul, vMod, vFdiv, vPow, vLt, vLe, vGt, vGe, vEq, vNe, vEqB, vIs, vIsnt, DD.isN, vIx_tup, vIx_lst, vIx_frz, gLen_tup, gLen_lst, gLen_frz, gTuple_tup, gTuple_lst, gList_tup, gList_lst, gInt_int, gInt_bl, vSl, wipeE, if_true, if_false, Bool.false_eq_true, decide_eq_true_eq, List.length_cons, List.length_nil, finB_0, cl_non, cl_bl, cl_int, cl_str, cl_tup, cl_lst, cls_nil, cls_cons, gLen_str, ev_zip, ev_enum, ev_text, ev_range2, ev_sub, ev_dput, walked_tup, walked_lst, walked_str, cutL_1, Bool.and_true, Bool.true_and, Bool.not_true, Bool.not_false]
  | some i =>
    simp only [Option.bind_some]
    cases hc : crowdOf i with
    | none => simp only [crowdV, ev_bin, ev_ix, ev_and, ev_or, ev_not, ev_neg, ev_tV, ev_tand, ev_tor, ev_tnot, ev_if, ev_chain, ev_acons, ev_tup, ev_lst, ev_new, ev_call, ev_osome, ev_sl, ev_meth, ev_kget, ev_comp, ev_compN, ev_iseq, ev_range1, ev_seq, ev_set, ev_drop, ev_ret, ev_xif, ev_for, fVar, fC, aNil, oNone, xNil, xRetN, fDict, eT, bind_ite, fin3_rt, fin3_nx, fin3_ite, Option.bind_some, Option.bind_none, List.getElem?_cons_zero, List.getElem?_cons_succ, List.set_cons_zero, List.set_cons_succ, vAdd, vSub, vMul, vMod, vFdiv, vPow, vLt, vLe, vGt, vGe, vEq, vNe, vEqB, vIs, vIsnt, DD.isN, vIx_tup, vIx_lst, vIx_frz, gLen_tup, gLen_lst, gLen_frz, gTuple_tup, gTuple_lst, gList_tup, gList_lst, gInt_int, gInt_bl, vSl, wipeE, if_true, if_false, Bool.false_eq_true, decide_eq_true_eq, List.length_cons, List.length_nil, finB_0, cl_non, cl_bl, cl_int, cl_str, cl_tup, cl_lst, cls_nil, cls_cons, gLen_str, ev_zip, ev_enum, ev_text, ev_range2, ev_sub, ev_dput, walked_tup, walked_lst, walked_str, cutL_1, Bool.and_true, Bool.true_and, Bool.not_true, Bool.not_false]
    | some c =>
      simp only [crowdV, ev_bin, ev_ix, ev_and, ev_or, ev_not, ev_neg, ev_tV, ev_tand, ev_tor, ev_tnot, ev_if, ev_chain, ev_acons, ev_tup, ev_lst, ev_new, ev_call, ev_osome, ev_sl, ev_meth, ev_kget, ev_comp, ev_compN, ev_iseq, ev_range1, ev_seq, ev_set, ev_drop, ev_ret, ev_xif, ev_for, fVar, fC, aNil, oNone, xNil, xRetN, fDict, eT, bind_ite, fin3_rt, fin3_nx, fin3_ite, Option.bind_some, Option.bind_none, List.getElem?_cons_zero, List.getElem?_cons_succ, List.set_cons_zero, List.set_cons_succ, vAdd, vSub, vMul, vMod, vFdiv, vPow, vLt, vLe, vGt, vGe, vEq, vNe, vEqB, vIs, vIsnt, DD.isN, vIx_tup, vIx_lst, vIx_frz, gLen_tup, gLen_lst, gLen_frz, gTuple_tup, gTuple_lst, gList_tup, gList_lst, gInt_int, gInt_bl, vSl, wipeE, if_true, if_false, Bool.false_eq_true, decide_eq_true_eq, List.length_cons, List.length_nil, finB_0, cl_non, cl_bl, cl_int, cl_str, cl_tup, cl_lst, cls_nil, cls_cons, gLen_str, ev_zip, ev_enum, ev_text, ev_range2, ev_sub, ev_dput, walked_tup, walked_lst, walked_str, cutL_1, Bool.and_true, Bool.true_and, Bool.not_true, Bool.not_false, PS.val, atI_4, n_first_item hp]
      cases firstOf p.box c with
      | none => simp only [optV, ev_bin, ev_ix, ev_and, ev_or, ev_not, ev_neg, ev_tV, ev_tand, ev_tor, ev_tnot, ev_if, ev_chain, ev_acons, ev_tup, ev_lst, ev_new, ev_call, ev_osome, ev_sl, ev_meth, ev_kget, ev_comp, ev_compN, ev_iseq, ev_range1, ev_seq, ev_set, ev_drop, ev_ret, ev_xif, ev_for, fVar, fC, aNil, oNone, xNil, xRetN, fDict, eT, bind_ite, fin3_rt, fin3_nx, fin3_ite, Option.bind_some, Option.bind_none, List.getElem?_cons_zero, List.getElem?_cons_succ, List.set_cons_zero, List.set_cons_succ, vAdd, vSub, vMul, vMod, vFdiv, vPow, vLt, vLe, vGt, vGe, vEq, vNe, vEqB, vIs, vIsnt, DD.isN, vIx_tup, vIx_lst, vIx_frz, gLen_tup, gLen_lst, gLen_frz, gTuple_tup, gTuple_lst, gList_tup, gList_lst, gInt_int, gInt_bl, vSl, wipeE, if_true, if_false, Bool.false_eq_true, decide_eq_true_eq, List.length_cons, List.length_nil, finB_0, cl_non, cl_bl, cl_int, cl_str, cl_tup, cl_lst, cls_nil, cls_cons, gLen_str, ev_zip, ev_enum, ev_text, ev_range2, ev_sub, ev_dput, walked_tup, walked_lst, walked_str, cutL_1, Bool.and_true, Bool.true_and, Bool.not_true, Bool.not_false, Option.isSome_none, nv_cl]
      | some j => simp only [optV, nI, ev_bin, ev_ix, ev_and, ev_or, ev_not, ev_neg, ev_tV, ev_tand, ev_tor, ev_tnot, ev_if, ev_chain, ev_acons, ev_tup, ev_lst, ev_new, ev_call, ev_osome, ev_sl, ev_meth, ev_kget, ev_comp, ev_compN, ev_iseq, ev_range1, ev_seq, ev_set, ev_drop, ev_ret, ev_xif, ev_for, fVar, fC, aNil, oNone, xNil, xRetN, fDict, eT, bind_ite, fin3_rt, fin3_nx, fin3_ite, Option.bind_some, Option.bind_none, List.getElem?_cons_zero, List.getElem?_cons_succ, List.set_cons_zero, List.set_cons_succ, vAdd, vSub, vMul, vMod, vFdiv, vPow, vLt, vLe, vGt, vGe, vEq, vNe, vEqB, vIs, vIsnt, DD.isN, vIx_tup, vIx_lst, vIx_frz, gLen_tup, gLen_lst, gLen_frz, gTuple_tup, gTuple_lst, gList_tup, gList_lst, gInt_int, gInt_bl, vSl, wipeE, if_true, if_false, Bool.false_eq_true, decide_eq_true_eq, List.length_cons, List.length_nil, finB_0, cl_non, cl_bl, cl_int, cl_str, cl_tup, cl_lst, cls_nil, cls_cons, gLen_str, ev_zip, ev_enum, ev_text, ev_range2, ev_sub, ev_dput, walked_tup, walked_lst, walked_str, cutL_1, Bool.and_true, Bool.true_and, Bool.not_true, Bool.not_false, Option.isSome_some]
def canN (k : List Ins) (p : PS) : Bool := (nextI k p).isSome && (waitsN k p).isNone
theorem n_can_act (hp : p.box.length ≤ 4096) : g_can_act [codeV k, p.val] st = some (.bl (canN k p), st) := by
  rw [gd_can_act]
  simp only [b_can_act, ev_bin, ev_ix, ev_and, ev_or, ev_not, ev_neg, ev_tV, ev_tand, ev_tor, ev_tnot, ev_if, ev_chain, ev_acons, ev_tup, ev_lst, ev_new, ev_call, ev_osome, ev_sl, ev_meth, ev_kget, ev_comp, ev_compN, ev_iseq, ev_range1, ev_seq, ev_set, ev_drop, ev_ret, ev_xif, ev_for, fVar, fC, aNil, oNone, xNil, xRetN, fDict, eT, bind_ite, fin3_rt, fin3_nx, fin3_ite, Option.bind_some, Option.bind_none, List.getElem?_cons_zero, List.getElem?_cons_succ, List.set_cons_zero, List.set_cons_succ, vAdd, vSub, vMul, vMod, vFdiv, vPow, vLt, vLe, vGt, vGe, vEq, vNe, vEqB, vIs, vIsnt, DD.isN, vIx_tup, vIx_lst, vIx_frz, gLen_tup, gLen_lst, gLen_frz, gTuple_tup, gTuple_lst, gList_tup, gList_lst, gInt_int, gInt_bl, vSl, wipeE, if_true, if_false, Bool.false_eq_true, decide_eq_true_eq, List.length_cons, List.length_nil, finB_0, cl_non, cl_bl, cl_int, cl_str, cl_tup, cl_lst, cls_nil, cls_cons, gLen_str, ev_zip, ev_enum, ev_text, ev_range2, ev_sub, ev_dput, walked_tup, walked_lst, walked_str, cutL_1, Bool.and_true, Bool.true_and, Bool.not_true, Bool.not_false, n_is_ended, n_waits_for hp]
  unfold canN
  cases nextI k p with
  | none => simp only [Option.isNone_none, Option.isSome_none, ev_bin, ev_ix, ev_and, ev_or, ev_not, ev_neg, ev_tV, ev_tand, ev_tor, ev_tnot, ev_if, ev_chain, ev_acons, ev_tup, ev_lst, ev_new, ev_call, ev_osome, ev_sl, ev_meth, ev_kget, ev_comp, ev_compN, ev_iseq, ev_range1, ev_seq, ev_set, ev_drop, ev_ret, ev_xif, ev_for, fVar, fC, aNil, oNone, xNil, xRetN, fDict, eT, bind_ite, fin3_rt, fin3_nx, fin3_ite, Option.bind_some, Option.bind_none, List.getElem?_cons_zero, List.getElem?_cons_succ, List.set_cons_zero, List.set_cons_succ, vAdd, vSub, vMul, vMod, vFdiv, vPow, vLt, vLe, vGt, vGe, vEq, vNe, vEqB, vIs, vIsnt, DD.isN, vIx_tup, vIx_lst, vIx_frz, gLen_tup, gLen_lst, gLen_frz, gTuple_tup, gTuple_lst, gList_tup, gList_lst, gInt_int, gInt_bl, vSl, wipeE, if_true, if_false, Bool.false_eq_true, decide_eq_true_eq, List.length_cons, List.length_nil, finB_0, cl_non, cl_bl, cl_int, cl_str, cl_tup, cl_lst, cls_nil, cls_cons, gLen_str, ev_zip, ev_enum, ev_text, ev_range2, ev_sub, ev_dput, walked_tup, walked_lst, walked_str, cutL_1, Bool.and_true, Bool.true_and, Bool.not_true, Bool.not_false, Bool.false_and]
  | some i =>
    simp only [Option.isNone_some, Option.isSome_some, ev_bin, ev_ix, ev_and, ev_or, ev_not, ev_neg, ev_tV, ev_tand, ev_tor, ev_tnot, ev_if, ev_chain, ev_acons, ev_tup, ev_lst, ev_new, ev_call, ev_osome, ev_sl, ev_meth, ev_kget, ev_comp, ev_compN, ev_iseq, ev_range1, ev_seq, ev_set, ev_drop, ev_ret, ev_xif, ev_for, fVar, fC, aNil, oNone, xNil, xRetN, fDict, eT, bind_ite, fin3_rt, fin3_nx, fin3_ite, Option.bind_some, Option.bind_none, List.getElem?_cons_zero, List.getElem?_cons_succ, List.set_cons_zero, List.set_cons_succ, vAdd, vSub, vMul, vMod, vFdiv, vPow, vLt, vLe, vGt, vGe, vEq, vNe, vEqB, vIs, vIsnt, DD.isN, vIx_tup, vIx_lst, vIx_frz, gLen_tup, gLen_lst, gLen_frz, gTuple_tup, gTuple_lst, gList_tup, gList_lst, gInt_int, gInt_bl, vSl, wipeE, if_true, if_false, Bool.false_eq_true, decide_eq_true_eq, List.length_cons, List.length_nil, finB_0, cl_non, cl_bl, cl_int, cl_str, cl_tup, cl_lst, cls_nil, cls_cons, gLen_str, ev_zip, ev_enum, ev_text, ev_range2, ev_sub, ev_dput, walked_tup, walked_lst, walked_str, cutL_1, Bool.and_true, Bool.true_and, Bool.not_true, Bool.not_false, Bool.true_and]
    cases waitsN k p with
    | none => simp only [crowdV, ev_bin, ev_ix, ev_and, ev_or, ev_not, ev_neg, ev_tV, ev_tand, ev_tor, ev_tnot, ev_if, ev_chain, ev_acons, ev_tup, ev_lst, ev_new, ev_call, ev_osome, ev_sl, ev_meth, ev_kget, ev_comp, ev_compN, ev_iseq, ev_range1, ev_seq, ev_set, ev_drop, ev_ret, ev_xif, ev_for, fVar, fC, aNil, oNone, xNil, xRetN, fDict, eT, bind_ite, fin3_rt, fin3_nx, fin3_ite, Option.bind_some, Option.bind_none, List.getElem?_cons_zero, List.getElem?_cons_succ, List.set_cons_zero, List.set_cons_succ, vAdd, vSub, vMul, vMod, vFdiv, vPow, vLt, vLe, vGt, vGe, vEq, vNe, vEqB, vIs, vIsnt, DD.isN, vIx_tup, vIx_lst, vIx_frz, gLen_tup, gLen_lst, gLen_frz, gTuple_tup, gTuple_lst, gList_tup, gList_lst, gInt_int, gInt_bl, vSl, wipeE, if_true, if_false, Bool.false_eq_true, decide_eq_true_eq, List.length_cons, List.length_nil, finB_0, cl_non, cl_bl, cl_int, cl_str, cl_tup, cl_lst, cls_nil, cls_cons, gLen_str, ev_zip, ev_enum, ev_text, ev_range2, ev_sub, ev_dput, walked_tup, walked_lst, walked_str, cutL_1, Bool.and_true, Bool.true_and, Bool.not_true, Bool.not_false, Option.isNone_none]
    | some c => simp only [crowdV, ev_bin, ev_ix, ev_and, ev_or, ev_not, ev_neg, ev_tV, ev_tand, ev_tor, ev_tnot, ev_if, ev_chain, ev_acons, ev_tup, ev_lst, ev_new, ev_call, ev_osome, ev_sl, ev_meth, ev_kget, ev_comp, ev_compN, ev_iseq, ev_range1, ev_seq, ev_set, ev_drop, ev_ret, ev_xif, ev_for, fVar, fC, aNil, oNone, xNil, xRetN, fDict, eT, bind_ite, fin3_rt, fin3_nx, fin3_ite, Option.bind_some, Option.bind_none, List.getElem?_cons_zero, List.getElem?_cons_succ, List.set_cons_zero, List.set_cons_succ, vAdd, vSub, vMul, vMod, vFdiv, vPow, vLt, vLe, vGt, vGe, vEq, vNe, vEqB, vIs, vIsnt, DD.isN, vIx_tup, vIx_lst, vIx_frz, gLen_tup, gLen_lst, gLen_frz, gTuple_tup, gTuple_lst, gList_tup, gList_lst, gInt_int, gInt_bl, vSl, wipeE, if_true, if_false, Bool.false_eq_true, decide_eq_true_eq, List.length_cons, List.length_nil, finB_0, cl_non, cl_bl, cl_int, cl_str, cl_tup, cl_lst, cls_nil, cls_cons, gLen_str, ev_zip, ev_enum, ev_text, ev_range2, ev_sub, ev_dput, walked_tup, walked_lst, walked_str, cutL_1, Bool.and_true, Bool.true_and, Bool.not_true, Bool.not_false, Option.isNone_some]
theorem n_put {l : List Val} {i : Nat} {v : Val} (hl : l.length ≤ 4000) (hc : cls 0 l = true) (hv : cl 0 v = true) : g_put [.tup l, .int (i : Int), v] st = some (.tup (l.take i ++ [v] ++ l.drop (i + 1)), st) := by
  rw [gd_put]
  simp only [b_put, ev_bin, ev_ix, ev_and, ev_or, ev_not, ev_neg, ev_tV, ev_tand, ev_tor, ev_tnot, ev_if, ev_chain, ev_acons, ev_tup, ev_lst, ev_new, ev_call, ev_osome, ev_sl, ev_meth, ev_kget, ev_comp, ev_compN, ev_iseq, ev_range1, ev_seq, ev_set, ev_drop, ev_ret, ev_xif, ev_for, fVar, fC, aNil, oNone, xNil, xRetN, fDict, eT, bind_ite, fin3_rt, fin3_nx, fin3_ite, Option.bind_some, Option.bind_none, List.getElem?_cons_zero, List.getElem?_cons_succ, List.set_cons_zero, List.set_cons_succ, vAdd, vSub, vMul, vMod, vFdiv, vPow, vLt, vLe, vGt, vGe, vEq, vNe, vEqB, vIs, vIsnt, DD.isN, vIx_tup, vIx_lst, vIx_frz, gLen_tup, gLen_lst, gLen_frz, gTuple_tup, gTuple_lst, gList_tup, gList_lst, gInt_int, gInt_bl, vSl, wipeE, if_true, if_false, Bool.false_eq_true, decide_eq_true_eq, List.length_cons, List.length_nil, finB_0, cl_non, cl_bl, cl_int, cl_str, cl_tup, cl_lst, cls_nil, cls_cons, gLen_str, ev_zip, ev_enum, ev_text, ev_range2, ev_sub, ev_dput, walked_tup, walked_lst, walked_str, cutL_1, Bool.and_true, Bool.true_and, Bool.not_true, Bool.not_false, cutL_to, cutL_from1, Nat.reduceAdd, Nat.reduceLeDiff]
  rw [if_pos (by rw [List.length_take]; omega)]
  rw [if_pos (by rw [List.length_append, List.length_take, List.length_singleton, List.length_drop]; omega)]
  refine finB_0 ?_
  rw [cl_tup, cls_append, cls_append, cls_cons, hv, cls_nil, cls_of fun v hv => cls_mem hc (List.mem_of_mem_take hv), cls_of fun v hv => cls_mem hc (List.mem_of_mem_drop hv)]
  rfl
theorem n_putR {R : List Nat} {r x : Nat} (h : R.length = 4) (hr : r < 4) : g_put [.tup (nv R), .int (r : Int), .int (x : Int)] st = some (.tup (nv (R.set r x)), st) := by
  rw [n_put (by rw [nv_len]; omega) nv_cl cl_int]
  unfold nv
  rw [← map_put (by omega)]
theorem slots_cl {S : List (Option (Nat × Nat))} {m : Nat} : cls m (S.map slotV) = true := okDs_cl (n := 1) (okDs_map fun x => slot_okD)
theorem n_putS {S : List (Option (Nat × Nat))} {r : Nat} {x : Option (Nat × Nat)} (h : S.length = 3) (hr : r < 3) : g_put [.tup (S.map slotV), .int (r : Int), slotV x] st = some (.tup ((S.set r x).map slotV), st) := by
  rw [n_put (by rw [List.length_map]; omega) slots_cl (okD_cl slot_okD)]
  rw [← map_put (by omega)]
theorem items_cl {S : List (Nat × Pay)} {m : Nat} : cls m (S.map itemV) = true := okDs_cl (n := 2) (okDs_map fun x => item_okD)
theorem n_taken {c : List Nat} {j : Nat} {x : Nat × Pay} (hp : p.box.length ≤ 4000) (hj : firstOf p.box c = some j) (hx : p.box[j]? = some x) : g_taken [p.val, .tup (nv c)] st = some (.tup [itemV x, .tup ((p.box.eraseIdx j).map itemV)], st) := by
  rw [gd_taken]
  simp only [b_taken, ev_bin, ev_ix, ev_and, ev_or, ev_not, ev_neg, ev_tV, ev_tand, ev_tor, ev_tnot, ev_if, ev_chain, ev_acons, ev_tup, ev_lst, ev_new, ev_call, ev_osome, ev_sl, ev_meth, ev_kget, ev_comp, ev_compN, ev_iseq, ev_range1, ev_seq, ev_set, ev_drop, ev_ret, ev_xif, ev_for, fVar, fC, aNil, oNone, xNil, xRetN, fDict, eT, bind_ite, fin3_rt, fin3_nx, fin3_ite, Option.bind_some, Option.bind_none, List.getElem?_cons_zero, List.getElem?_cons_succ, List.set_cons_zero, List.set_cons_succ, vAdd, vSub, vMul, vMod, vFdiv, vPow, vLt, vLe, vGt, vGe, vEq, vNe, vEqB, vIs, vIsnt, DD.isN, vIx_tup, vIx_lst, vIx_frz, gLen_tup, gLen_lst, gLen_frz, gTuple_tup, gTuple_lst, gList_tup, gList_lst, gInt_int, gInt_bl, vSl, wipeE, if_true, if_false, Bool.false_eq_true, decide_eq_true_eq, List.length_cons, List.length_nil, finB_0, cl_non, cl_bl, cl_int, cl_str, cl_tup, cl_lst, cls_nil, cls_cons, gLen_str, ev_zip, ev_enum, ev_text, ev_range2, ev_sub, ev_dput, walked_tup, walked_lst, walked_str, cutL_1, Bool.and_true, Bool.true_and, Bool.not_true, Bool.not_false, PS.val, atI_4, n_first_item (box := p.box) (c := c) (by omega), hj, optV, nI, atI_nat', List.getElem?_map, hx, Option.map_some, cutL_to, cutL_from1]
  rw [if_pos (by rw [List.length_take, List.length_drop, List.length_map]; omega)]
  simp only [ev_bin, ev_ix, ev_and, ev_or, ev_not, ev_neg, ev_tV, ev_tand, ev_tor, ev_tnot, ev_if, ev_chain, ev_acons, ev_tup, ev_lst, ev_new, ev_call, ev_osome, ev_sl, ev_meth, ev_kget, ev_comp, ev_compN, ev_iseq, ev_range1, ev_seq, ev_set, ev_drop, ev_ret, ev_xif, ev_for, fVar, fC, aNil, oNone, xNil, xRetN, fDict, eT, bind_ite, fin3_rt, fin3_nx, fin3_ite, Option.bind_some, Option.bind_none, List.getElem?_cons_zero, List.getElem?_cons_succ, List.set_cons_zero, List.set_cons_succ, vAdd, vSub, vMul, vMod, vFdiv, vPow, vLt, vLe, vGt, vGe, vEq, vNe, vEqB, vIs, vIsnt, DD.isN, vIx_tup, vIx_lst, vIx_frz, gLen_tup, gLen_lst, gLen_frz, gTuple_tup, gTuple_lst, gList_tup, gList_lst, gInt_int, gInt_bl, vSl, wipeE, if_true, if_false, Bool.false_eq_true, decide_eq_true_eq, List.length_cons, List.length_nil, finB_0, cl_non, cl_bl, cl_int, cl_str, cl_tup, cl_lst, cls_nil, cls_cons, gLen_str, ev_zip, ev_enum, ev_text, ev_range2, ev_sub, ev_dput, walked_tup, walked_lst, walked_str, cutL_1, Bool.and_true, Bool.true_and, Bool.not_true, Bool.not_false, map_rem, Nat.reduceAdd, Nat.reduceLeDiff]
  refine finB_0 ?_
  rw [cl_tup, cls_cons, cls_cons, cls_nil, okD_cl item_okD, cl_tup, items_cl]
  rfl
theorem cast_mod {a b : Nat} : (((a + b) % 1000 : Nat) : Int) = ((a : Int) + (b : Int)) % 1000 := by omega
theorem cast_1 {a : Nat} : ((a + 1 : Nat) : Int) = (a : Int) + 1 := rfl
theorem getD_zero {a : Nat} : ((a : Int) = 0) = (a = 0) := by apply propext; omega
theorem pair_cl {l : List Nat} {x : Nat} {m : Nat} : cl m (.tup [.tup (nv l), .int (x : Int)]) = true := by
  rw [cl_tup, cls_cons, cls_cons, cls_nil, cl_tup, nv_cl, cl_int]; rfl
theorem n_reg_set {r v : Nat} (hp : p.ok) (h : r < 4) : g_act_on_registers [(Ins.set r v).val, p.val] st = some (.tup [.tup (nv (p.R.set r v)), nI (p.at_ + 1)], st) := by
  rw [gd_act_on_registers]
  simp only [b_act_on_registers, ev_bin, ev_ix, ev_and, ev_or, ev_not, ev_neg, ev_tV, ev_tand, ev_tor, ev_tnot, ev_if, ev_chain, ev_acons, ev_tup, ev_lst, ev_new, ev_call, ev_osome, ev_sl, ev_meth, ev_kget, ev_comp, ev_compN, ev_iseq, ev_range1, ev_seq, ev_set, ev_drop, ev_ret, ev_xif, ev_for, fVar, fC, aNil, oNone, xNil, xRetN, fDict, eT, bind_ite, fin3_rt, fin3_nx, fin3_ite, Option.bind_some, Option.bind_none, List.getElem?_cons_zero, List.getElem?_cons_succ, List.set_cons_zero, List.set_cons_succ, vAdd, vSub, vMul, vMod, vFdiv, vPow, vLt, vLe, vGt, vGe, vEq, vNe, vEqB, vIs, vIsnt, DD.isN, vIx_tup, vIx_lst, vIx_frz, gLen_tup, gLen_lst, gLen_frz, gTuple_tup, gTuple_lst, gList_tup, gList_lst, gInt_int, gInt_bl, vSl, wipeE, if_true, if_false, Bool.false_eq_true, decide_eq_true_eq, List.length_cons, List.length_nil, finB_0, cl_non, cl_bl, cl_int, cl_str, cl_tup, cl_lst, cls_nil, cls_cons, gLen_str, ev_zip, ev_enum, ev_text, ev_range2, ev_sub, ev_dput, walked_tup, walked_lst, walked_str, cutL_1, Bool.and_true, Bool.true_and, Bool.not_true, Bool.not_false, PS.val, Ins.val, sV, nI, atI_zero, atI_1, atI_2, ofString_inj, String.reduceEq, decide_true, n_putR hp.R h, Nat.reduceAdd, Nat.reduceLeDiff, cast_1]
  exact finB_0 pair_cl
theorem n_reg_add {r q : Nat} (hp : p.ok) (h : r < 4) (h2 : q < 4) : g_act_on_registers [(Ins.add r q).val, p.val] st = some (.tup [.tup (nv (p.R.set r ((p.R.getD r 0 + p.R.getD q 0) % 1000))), nI (p.at_ + 1)], st) := by
  have hR := hp.R
  rw [gd_act_on_registers]
  simp only [b_act_on_registers, ev_bin, ev_ix, ev_and, ev_or, ev_not, ev_neg, ev_tV, ev_tand, ev_tor, ev_tnot, ev_if, ev_chain, ev_acons, ev_tup, ev_lst, ev_new, ev_call, ev_osome, ev_sl, ev_meth, ev_kget, ev_comp, ev_compN, ev_iseq, ev_range1, ev_seq, ev_set, ev_drop, ev_ret, ev_xif, ev_for, fVar, fC, aNil, oNone, xNil, xRetN, fDict, eT, bind_ite, fin3_rt, fin3_nx, fin3_ite, Option.bind_some, Option.bind_none, List.getElem?_cons_zero, List.getElem?_cons_succ, List.set_cons_zero, List.set_cons_succ, vAdd, vSub, vMul, vMod, vFdiv, vPow, vLt, vLe, vGt, vGe, vEq, vNe, vEqB, vIs, vIsnt, DD.isN, vIx_tup, vIx_lst, vIx_frz, gLen_tup, gLen_lst, gLen_frz, gTuple_tup, gTuple_lst, gList_tup, gList_lst, gInt_int, gInt_bl, vSl, wipeE, if_true, if_false, Bool.false_eq_true, decide_eq_true_eq, List.length_cons, List.length_nil, finB_0, cl_non, cl_bl, cl_int, cl_str, cl_tup, cl_lst, cls_nil, cls_cons, gLen_str, ev_zip, ev_enum, ev_text, ev_range2, ev_sub, ev_dput, walked_tup, walked_lst, walked_str, cutL_1, Bool.and_true, Bool.true_and, Bool.not_true, Bool.not_false, PS.val, Ins.val, sV, nI, atI_zero, atI_1, atI_2, atI_nat', nv_getD (show r < p.R.length by omega), nv_getD (show q < p.R.length by omega), ofString_inj, String.reduceEq, decide_true, decide_false, Int.reduceLT, ← cast_mod, n_putR hp.R h, Nat.reduceAdd, Nat.reduceLeDiff, cast_1]
  exact finB_0 pair_cl
theorem n_reg_test {r q : Nat} (hp : p.ok) (h : r < 4) : g_act_on_registers [(Ins.test r q).val, p.val] st = some (.tup [.tup (nv p.R), nI (if p.R.getD r 0 = 0 then q else p.at_ + 1)], st) := by
  have hR := hp.R
  rw [gd_act_on_registers]
  simp only [b_act_on_registers, ev_bin, ev_ix, ev_and, ev_or, ev_not, ev_neg, ev_tV, ev_tand, ev_tor, ev_tnot, ev_if, ev_chain, ev_acons, ev_tup, ev_lst, ev_new, ev_call, ev_osome, ev_sl, ev_meth, ev_kget, ev_comp, ev_compN, ev_iseq, ev_range1, ev_seq, ev_set, ev_drop, ev_ret, ev_xif, ev_for, fVar, fC, aNil, oNone, xNil, xRetN, fDict, eT, bind_ite, fin3_rt, fin3_nx, fin3_ite, Option.bind_some, Option.bind_none, List.getElem?_cons_zero, List.getElem?_cons_succ, List.set_cons_zero, List.set_cons_succ, vAdd, vSub, vMul, vMod, vFdiv, vPow, vLt, vLe, vGt, vGe, vEq, vNe, vEqB, vIs, vIsnt, DD.isN, vIx_tup, vIx_lst, vIx_frz, gLen_tup, gLen_lst, gLen_frz, gTuple_tup, gTuple_lst, gList_tup, gList_lst, gInt_int, gInt_bl, vSl, wipeE, if_true, if_false, Bool.false_eq_true, decide_eq_true_eq, List.length_cons, List.length_nil, finB_0, cl_non, cl_bl, cl_int, cl_str, cl_tup, cl_lst, cls_nil, cls_cons, gLen_str, ev_zip, ev_enum, ev_text, ev_range2, ev_sub, ev_dput, walked_tup, walked_lst, walked_str, cutL_1, Bool.and_true, Bool.true_and, Bool.not_true, Bool.not_false, PS.val, Ins.val, sV, nI, atI_zero, atI_1, atI_2, atI_nat', nv_getD (show r < p.R.length by omega), ofString_inj, String.reduceEq, decide_true, decide_false, getD_zero, Nat.reduceAdd, Nat.reduceLeDiff]
  by_cases h0 : p.R.getD r 0 = 0
  · simp only [h0, if_true, ev_bin, ev_ix, ev_and, ev_or, ev_not, ev_neg, ev_tV, ev_tand, ev_tor, ev_tnot, ev_if, ev_chain, ev_acons, ev_tup, ev_lst, ev_new, ev_call, ev_osome, ev_sl, ev_meth, ev_kget, ev_comp, ev_compN, ev_iseq, ev_range1, ev_seq, ev_set, ev_drop, ev_ret, ev_xif, ev_for, fVar, fC, aNil, oNone, xNil, xRetN, fDict, eT, bind_ite, fin3_rt, fin3_nx, fin3_ite, Option.bind_some, Option.bind_none, List.getElem?_cons_zero, List.getElem?_cons_succ, List.set_cons_zero, List.set_cons_succ, vAdd, vSub, vMul, vMod, vFdiv, vPow, vLt, vLe, vGt, vGe, vEq, vNe, vEqB, vIs, vIsnt, DD.isN, vIx_tup, vIx_lst, vIx_frz, gLen_tup, gLen_lst, gLen_frz, gTuple_tup, gTuple_lst, gList_tup, gList_lst, gInt_int, gInt_bl, vSl, wipeE, if_true, if_false, Bool.false_eq_true, decide_eq_true_eq, List.length_cons, List.length_nil, finB_0, cl_non, cl_bl, cl_int, cl_str, cl_tup, cl_lst, cls_nil, cls_cons, gLen_str, ev_zip, ev_enum, ev_text, ev_range2, ev_sub, ev_dput, walked_tup, walked_lst, walked_str, cutL_1, Bool.and_true, Bool.true_and, Bool.not_true, Bool.not_false, Nat.reduceAdd, Nat.reduceLeDiff]
    exact finB_0 pair_cl
  · simp only [h0, if_false, ev_bin, ev_ix, ev_and, ev_or, ev_not, ev_neg, ev_tV, ev_tand, ev_tor, ev_tnot, ev_if, ev_chain, ev_acons, ev_tup, ev_lst, ev_new, ev_call, ev_osome, ev_sl, ev_meth, ev_kget, ev_comp, ev_compN, ev_iseq, ev_range1, ev_seq, ev_set, ev_drop, ev_ret, ev_xif, ev_for, fVar, fC, aNil, oNone, xNil, xRetN, fDict, eT, bind_ite, fin3_rt, fin3_nx, fin3_ite, Option.bind_some, Option.bind_none, List.getElem?_cons_zero, List.getElem?_cons_succ, List.set_cons_zero, List.set_cons_succ, vAdd, vSub, vMul, vMod, vFdiv, vPow, vLt, vLe, vGt, vGe, vEq, vNe, vEqB, vIs, vIsnt, DD.isN, vIx_tup, vIx_lst, vIx_frz, gLen_tup, gLen_lst, gLen_frz, gTuple_tup, gTuple_lst, gList_tup, gList_lst, gInt_int, gInt_bl, vSl, wipeE, if_true, if_false, Bool.false_eq_true, decide_eq_true_eq, List.length_cons, List.length_nil, finB_0, cl_non, cl_bl, cl_int, cl_str, cl_tup, cl_lst, cls_nil, cls_cons, gLen_str, ev_zip, ev_enum, ev_text, ev_range2, ev_sub, ev_dput, walked_tup, walked_lst, walked_str, cutL_1, Bool.and_true, Bool.true_and, Bool.not_true, Bool.not_false, Nat.reduceAdd, Nat.reduceLeDiff, cast_1]
    exact finB_0 (pair_cl (x := p.at_ + 1))
theorem pairS_cl {l : List (Option (Nat × Nat))} {x : Nat} {m : Nat} : cl m (.tup [.tup (l.map slotV), .int (x : Int)]) = true := by
  rw [cl_tup, cls_cons, cls_cons, cls_nil, cl_tup, slots_cl, cl_int]; rfl
theorem n_slot_new {n s : Nat} (hp : p.ok) (h : s < 3) : g_act_on_slots [(Ins.new s).val, .int (n : Int), p.val] st = some (.tup [.tup ((p.S.set s (some (n, p.made))).map slotV), nI (p.made + 1)], st) := by
  have e := n_putS (st := st) (x := some (n, p.made)) hp.S h
  simp only [slotV, nI] at e
  rw [gd_act_on_slots]
  simp only [b_act_on_slots, ev_bin, ev_ix, ev_and, ev_or, ev_not, ev_neg, ev_tV, ev_tand, ev_tor, ev_tnot, ev_if, ev_chain, ev_acons, ev_tup, ev_lst, ev_new, ev_call, ev_osome, ev_sl, ev_meth, ev_kget, ev_comp, ev_compN, ev_iseq, ev_range1, ev_seq, ev_set, ev_drop, ev_ret, ev_xif, ev_for, fVar, fC, aNil, oNone, xNil, xRetN, fDict, eT, bind_ite, fin3_rt, fin3_nx, fin3_ite, Option.bind_some, Option.bind_none, List.getElem?_cons_zero, List.getElem?_cons_succ, List.set_cons_zero, List.set_cons_succ, vAdd, vSub, vMul, vMod, vFdiv, vPow, vLt, vLe, vGt, vGe, vEq, vNe, vEqB, vIs, vIsnt, DD.isN, vIx_tup, vIx_lst, vIx_frz, gLen_tup, gLen_lst, gLen_frz, gTuple_tup, gTuple_lst, gList_tup, gList_lst, gInt_int, gInt_bl, vSl, wipeE, if_true, if_false, Bool.false_eq_true, decide_eq_true_eq, List.length_cons, List.length_nil, finB_0, cl_non, cl_bl, cl_int, cl_str, cl_tup, cl_lst, cls_nil, cls_cons, gLen_str, ev_zip, ev_enum, ev_text, ev_range2, ev_sub, ev_dput, walked_tup, walked_lst, walked_str, cutL_1, Bool.and_true, Bool.true_and, Bool.not_true, Bool.not_false, PS.val, Ins.val, sV, nI, atI_zero, atI_1, atI_2, atI_6, ofString_inj, String.reduceEq, decide_true, e, Nat.reduceAdd, Nat.reduceLeDiff, cast_1]
  exact finB_0 (pairS_cl (x := p.made + 1))
theorem n_slot_drop {n s : Nat} (hp : p.ok) (h : s < 3) : g_act_on_slots [(Ins.drop s).val, .int (n : Int), p.val] st = some (.tup [.tup ((p.S.set s none).map slotV), nI p.made], st) := by
  have e := n_putS (st := st) (x := none) hp.S h
  simp only [slotV, nI] at e
  rw [gd_act_on_slots]
  simp only [b_act_on_slots, ev_bin, ev_ix, ev_and, ev_or, ev_not, ev_neg, ev_tV, ev_tand, ev_tor, ev_tnot, ev_if, ev_chain, ev_acons, ev_tup, ev_lst, ev_new, ev_call, ev_osome, ev_sl, ev_meth, ev_kget, ev_comp, ev_compN, ev_iseq, ev_range1, ev_seq, ev_set, ev_drop, ev_ret, ev_xif, ev_for, fVar, fC, aNil, oNone, xNil, xRetN, fDict, eT, bind_ite, fin3_rt, fin3_nx, fin3_ite, Option.bind_some, Option.bind_none, List.getElem?_cons_zero, List.getElem?_cons_succ, List.set_cons_zero, List.set_cons_succ, vAdd, vSub, vMul, vMod, vFdiv, vPow, vLt, vLe, vGt, vGe, vEq, vNe, vEqB, vIs, vIsnt, DD.isN, vIx_tup, vIx_lst, vIx_frz, gLen_tup, gLen_lst, gLen_frz, gTuple_tup, gTuple_lst, gList_tup, gList_lst, gInt_int, gInt_bl, vSl, wipeE, if_true, if_false, Bool.false_eq_true, decide_eq_true_eq, List.length_cons, List.length_nil, finB_0, cl_non, cl_bl, cl_int, cl_str, cl_tup, cl_lst, cls_nil, cls_cons, gLen_str, ev_zip, ev_enum, ev_text, ev_range2, ev_sub, ev_dput, walked_tup, walked_lst, walked_str, cutL_1, Bool.and_true, Bool.true_and, Bool.not_true, Bool.not_false, PS.val, Ins.val, sV, nI, atI_zero, atI_1, atI_2, atI_6, ofString_inj, String.reduceEq, decide_false, e, Nat.reduceAdd, Nat.reduceLeDiff]
  exact finB_0 (pairS_cl (x := p.made))
theorem quad_cl {R : List Nat} {S : List (Option (Nat × Nat))} {x m : Nat} {B : List (Nat × Pay)} : cl m (.tup [.tup (nv R), .tup (S.map slotV), .int (x : Int), .tup (B.map itemV)]) = true := by
  rw [cl_tup, cls_cons, cls_cons, cls_cons, cls_cons, cls_nil, cl_tup, nv_cl, cl_tup, slots_cl, cl_int, cl_tup, items_cl]; rfl
theorem n_get {r s j : Nat} {c : List Nat} {y : Pay} (hp : p.ok) (h : r < 4) (hj : firstOf p.box c = some j) (hx : p.box[j]? = some (s, y)) : g_act_of_taking [(Ins.get r c).val, p.val] st = some (.tup [.tup (nv (p.R.set r (payN y))), .tup (p.S.map slotV), nI s, .tup ((p.box.eraseIdx j).map itemV)], st) := by
  have hb := hp.box
  rw [gd_act_of_taking]
  have e := n_taken (st := st) (by omega) hj hx
  simp only [PS.val, nI] at e
  simp only [b_act_of_taking, ev_bin, ev_ix, ev_and, ev_or, ev_not, ev_neg, ev_tV, ev_tand, ev_tor, ev_tnot, ev_if, ev_chain, ev_acons, ev_tup, ev_lst, ev_new, ev_call, ev_osome, ev_sl, ev_meth, ev_kget, ev_comp, ev_compN, ev_iseq, ev_range1, ev_seq, ev_set, ev_drop, ev_ret, ev_xif, ev_for, fVar, fC, aNil, oNone, xNil, xRetN, fDict, eT, bind_ite, fin3_rt, fin3_nx, fin3_ite, Option.bind_some, Option.bind_none, List.getElem?_cons_zero, List.getElem?_cons_succ, List.set_cons_zero, List.set_cons_succ, vAdd, vSub, vMul, vMod, vFdiv, vPow, vLt, vLe, vGt, vGe, vEq, vNe, vEqB, vIs, vIsnt, DD.isN, vIx_tup, vIx_lst, vIx_frz, gLen_tup, gLen_lst, gLen_frz, gTuple_tup, gTuple_lst, gList_tup, gList_lst, gInt_int, gInt_bl, vSl, wipeE, if_true, if_false, Bool.false_eq_true, decide_eq_true_eq, List.length_cons, List.length_nil, finB_0, cl_non, cl_bl, cl_int, cl_str, cl_tup, cl_lst, cls_nil, cls_cons, gLen_str, ev_zip, ev_enum, ev_text, ev_range2, ev_sub, ev_dput, walked_tup, walked_lst, walked_str, cutL_1, Bool.and_true, Bool.true_and, Bool.not_true, Bool.not_false, PS.val, Ins.val, sV, nI, atI_zero, atI_1, atI_2, e, eT, sets, itemV, ofString_inj, String.reduceEq, decide_false]
  cases y with
  | num v =>
    simp only [Pay.val, sV, nI, ev_bin, ev_ix, ev_and, ev_or, ev_not, ev_neg, ev_tV, ev_tand, ev_tor, ev_tnot, ev_if, ev_chain, ev_acons, ev_tup, ev_lst, ev_new, ev_call, ev_osome, ev_sl, ev_meth, ev_kget, ev_comp, ev_compN, ev_iseq, ev_range1, ev_seq, ev_set, ev_drop, ev_ret, ev_xif, ev_for, fVar, fC, aNil, oNone, xNil, xRetN, fDict, eT, bind_ite, fin3_rt, fin3_nx, fin3_ite, Option.bind_some, Option.bind_none, List.getElem?_cons_zero, List.getElem?_cons_succ, List.set_cons_zero, List.set_cons_succ, vAdd, vSub, vMul, vMod, vFdiv, vPow, vLt, vLe, vGt, vGe, vEq, vNe, vEqB, vIs, vIsnt, DD.isN, vIx_tup, vIx_lst, vIx_frz, gLen_tup, gLen_lst, gLen_frz, gTuple_tup, gTuple_lst, gList_tup, gList_lst, gInt_int, gInt_bl, vSl, wipeE, if_true, if_false, Bool.false_eq_true, decide_eq_true_eq, List.length_cons, List.length_nil, finB_0, cl_non, cl_bl, cl_int, cl_str, cl_tup, cl_lst, cls_nil, cls_cons, gLen_str, ev_zip, ev_enum, ev_text, ev_range2, ev_sub, ev_dput, walked_tup, walked_lst, walked_str, cutL_1, Bool.and_true, Bool.true_and, Bool.not_true, Bool.not_false, atI_zero, atI_1, ofString_inj, String.reduceEq, decide_true, n_putR hp.R h, Nat.reduceAdd, Nat.reduceLeDiff]
    exact finB_0 quad_cl
  | obj a b =>
    have e0 := n_putR (st := st) (x := 0) hp.R h
    simp only [Int.natCast_zero, Int.ofNat_zero, Int.cast_ofNat_Int, Int.ofNat_eq_natCast] at e0
    simp only [Pay.val, sV, nI, ev_bin, ev_ix, ev_and, ev_or, ev_not, ev_neg, ev_tV, ev_tand, ev_tor, ev_tnot, ev_if, ev_chain, ev_acons, ev_tup, ev_lst, ev_new, ev_call, ev_osome, ev_sl, ev_meth, ev_kget, ev_comp, ev_compN, ev_iseq, ev_range1, ev_seq, ev_set, ev_drop, ev_ret, ev_xif, ev_for, fVar, fC, aNil, oNone, xNil, xRetN, fDict, eT, bind_ite, fin3_rt, fin3_nx, fin3_ite, Option.bind_some, Option.bind_none, List.getElem?_cons_zero, List.getElem?_cons_succ, List.set_cons_zero, List.set_cons_succ, vAdd, vSub, vMul, vMod, vFdiv, vPow, vLt, vLe, vGt, vGe, vEq, vNe, vEqB, vIs, vIsnt, DD.isN, vIx_tup, vIx_lst, vIx_frz, gLen_tup, gLen_lst, gLen_frz, gTuple_tup, gTuple_lst, gList_tup, gList_lst, gInt_int, gInt_bl, vSl, wipeE, if_true, if_false, Bool.false_eq_true, decide_eq_true_eq, List.length_cons, List.length_nil, finB_0, cl_non, cl_bl, cl_int, cl_str, cl_tup, cl_lst, cls_nil, cls_cons, gLen_str, ev_zip, ev_enum, ev_text, ev_range2, ev_sub, ev_dput, walked_tup, walked_lst, walked_str, cutL_1, Bool.and_true, Bool.true_and, Bool.not_true, Bool.not_false, atI_zero, atI_1, ofString_inj, String.reduceEq, decide_false, e0, Nat.reduceAdd, Nat.reduceLeDiff]
    exact finB_0 quad_cl
theorem n_hold {r s j : Nat} {c : List Nat} {y : Pay} (hp : p.ok) (h : r < 3) (hj : firstOf p.box c = some j) (hx : p.box[j]? = some (s, y)) : g_act_of_taking [(Ins.hold r c).val, p.val] st = some (.tup [.tup (nv p.R), .tup ((p.S.set r (payO y)).map slotV), nI s, .tup ((p.box.eraseIdx j).map itemV)], st) := by
  have hb := hp.box
  rw [gd_act_of_taking]
  have e := n_taken (st := st) (by omega) hj hx
  simp only [PS.val, nI] at e
  simp only [b_act_of_taking, ev_bin, ev_ix, ev_and, ev_or, ev_not, ev_neg, ev_tV, ev_tand, ev_tor, ev_tnot, ev_if, ev_chain, ev_acons, ev_tup, ev_lst, ev_new, ev_call, ev_osome, ev_sl, ev_meth, ev_kget, ev_comp, ev_compN, ev_iseq, ev_range1, ev_seq, ev_set, ev_drop, ev_ret, ev_xif, ev_for, fVar, fC, aNil, oNone, xNil, xRetN, fDict, eT, bind_ite, fin3_rt, fin3_nx, fin3_ite, Option.bind_some, Option.bind_none, List.getElem?_cons_zero, List.getElem?_cons_succ, List.set_cons_zero, List.set_cons_succ, vAdd, vSub, vMul, vMod, vFdiv, vPow, vLt, vLe, vGt, vGe, vEq, vNe, vEqB, vIs, vIsnt, DD.isN, vIx_tup, vIx_lst, vIx_frz, gLen_tup, gLen_lst, gLen_frz, gTuple_tup, gTuple_lst, gList_tup, gList_lst, gInt_int, gInt_bl, vSl, wipeE, if_true, if_false, Bool.false_eq_true, decide_eq_true_eq, List.length_cons, List.length_nil, finB_0, cl_non, cl_bl, cl_int, cl_str, cl_tup, cl_lst, cls_nil, cls_cons, gLen_str, ev_zip, ev_enum, ev_text, ev_range2, ev_sub, ev_dput, walked_tup, walked_lst, walked_str, cutL_1, Bool.and_true, Bool.true_and, Bool.not_true, Bool.not_false, PS.val, Ins.val, sV, nI, atI_zero, atI_1, atI_2, e, eT, sets, itemV, ofString_inj, String.reduceEq, decide_true]
  cases y with
  | num v =>
    have e0 := n_putS (st := st) (x := none) hp.S h
    simp only [slotV] at e0
    simp only [Pay.val, sV, nI, ev_bin, ev_ix, ev_and, ev_or, ev_not, ev_neg, ev_tV, ev_tand, ev_tor, ev_tnot, ev_if, ev_chain, ev_acons, ev_tup, ev_lst, ev_new, ev_call, ev_osome, ev_sl, ev_meth, ev_kget, ev_comp, ev_compN, ev_iseq, ev_range1, ev_seq, ev_set, ev_drop, ev_ret, ev_xif, ev_for, fVar, fC, aNil, oNone, xNil, xRetN, fDict, eT, bind_ite, fin3_rt, fin3_nx, fin3_ite, Option.bind_some, Option.bind_none, List.getElem?_cons_zero, List.getElem?_cons_succ, List.set_cons_zero, List.set_cons_succ, vAdd, vSub, vMul, vMod, vFdiv, vPow, vLt, vLe, vGt, vGe, vEq, vNe, vEqB, vIs, vIsnt, DD.isN, vIx_tup, vIx_lst, vIx_frz, gLen_tup, gLen_lst, gLen_frz, gTuple_tup, gTuple_lst, gList_tup, gList_lst, gInt_int, gInt_bl, vSl, wipeE, if_true, if_false, Bool.false_eq_true, decide_eq_true_eq, List.length_cons, List.length_nil, finB_0, cl_non, cl_bl, cl_int, cl_str, cl_tup, cl_lst, cls_nil, cls_cons, gLen_str, ev_zip, ev_enum, ev_text, ev_range2, ev_sub, ev_dput, walked_tup, walked_lst, walked_str, cutL_1, Bool.and_true, Bool.true_and, Bool.not_true, Bool.not_false, atI_zero, atI_1, atI_2, ofString_inj, String.reduceEq, decide_false, e0, Nat.reduceAdd, Nat.reduceLeDiff]
    exact finB_0 quad_cl
  | obj a b =>
    have e0 := n_putS (st := st) (x := some (a, b)) hp.S h
    simp only [slotV, nI] at e0
    simp only [Pay.val, sV, nI, ev_bin, ev_ix, ev_and, ev_or, ev_not, ev_neg, ev_tV, ev_tand, ev_tor, ev_tnot, ev_if, ev_chain, ev_acons, ev_tup, ev_lst, ev_new, ev_call, ev_osome, ev_sl, ev_meth, ev_kget, ev_comp, ev_compN, ev_iseq, ev_range1, ev_seq, ev_set, ev_drop, ev_ret, ev_xif, ev_for, fVar, fC, aNil, oNone, xNil, xRetN, fDict, eT, bind_ite, fin3_rt, fin3_nx, fin3_ite, Option.bind_some, Option.bind_none, List.getElem?_cons_zero, List.getElem?_cons_succ, List.set_cons_zero, List.set_cons_succ, vAdd, vSub, vMul, vMod, vFdiv, vPow, vLt, vLe, vGt, vGe, vEq, vNe, vEqB, vIs, vIsnt, DD.isN, vIx_tup, vIx_lst, vIx_frz, gLen_tup, gLen_lst, gLen_frz, gTuple_tup, gTuple_lst, gList_tup, gList_lst, gInt_int, gInt_bl, vSl, wipeE, if_true, if_false, Bool.false_eq_true, decide_eq_true_eq, List.length_cons, List.length_nil, finB_0, cl_non, cl_bl, cl_int, cl_str, cl_tup, cl_lst, cls_nil, cls_cons, gLen_str, ev_zip, ev_enum, ev_text, ev_range2, ev_sub, ev_dput, walked_tup, walked_lst, walked_str, cutL_1, Bool.and_true, Bool.true_and, Bool.not_true, Bool.not_false, atI_zero, atI_1, atI_2, ofString_inj, String.reduceEq, decide_true, List.drop_succ_cons, List.drop_zero, e0, Nat.reduceAdd, Nat.reduceLeDiff]
    exact finB_0 quad_cl
theorem pay_cl {y : Pay} {m : Nat} : cl m y.val = true := okD_cl Pay.okD
theorem sends_cl {l : List (Nat × Pay)} {m : Nat} : cl m (.lst (l.map sendV)) = true := by
  rw [cl_lst]
  refine cls_of fun v hv => ?_
  obtain ⟨x, _, rfl⟩ := List.mem_map.mp hv
  unfold sendV
  rw [cl_tup, cls_cons, cls_cons, cls_nil, pay_cl]
  unfold nI
  rw [cl_int]; rfl
theorem n_sent {i : Ins} {c n : Nat} (hp : p.ok) (hi : i.ok c n) : g_sent_by [i.val, p.val] st = some (.lst ((sentOf i p).map sendV), st) := by
  have hR := hp.R
  have hS := hp.S
  rw [gd_sent_by]
  cases i with
  | send a r =>
    have hr : r < p.R.length := by have := hi.2; omega
    simp only [b_sent_by, ev_bin, ev_ix, ev_and, ev_or, ev_not, ev_neg, ev_tV, ev_tand, ev_tor, ev_tnot, ev_if, ev_chain, ev_acons, ev_tup, ev_lst, ev_new, ev_call, ev_osome, ev_sl, ev_meth, ev_kget, ev_comp, ev_compN, ev_iseq, ev_range1, ev_seq, ev_set, ev_drop, ev_ret, ev_xif, ev_for, fVar, fC, aNil, oNone, xNil, xRetN, fDict, eT, bind_ite, fin3_rt, fin3_nx, fin3_ite, Option.bind_some, Option.bind_none, List.getElem?_cons_zero, List.getElem?_cons_succ, List.set_cons_zero, List.set_cons_succ, vAdd, vSub, vMul, vMod, vFdiv, vPow, vLt, vLe, vGt, vGe, vEq, vNe, vEqB, vIs, vIsnt, DD.isN, vIx_tup, vIx_lst, vIx_frz, gLen_tup, gLen_lst, gLen_frz, gTuple_tup, gTuple_lst, gList_tup, gList_lst, gInt_int, gInt_bl, vSl, wipeE, if_true, if_false, Bool.false_eq_true, decide_eq_true_eq, List.length_cons, List.length_nil, finB_0, cl_non, cl_bl, cl_int, cl_str, cl_tup, cl_lst, cls_nil, cls_cons, gLen_str, ev_zip, ev_enum, ev_text, ev_range2, ev_sub, ev_dput, walked_tup, walked_lst, walked_str, cutL_1, Bool.and_true, Bool.true_and, Bool.not_true, Bool.not_false, PS.val, Ins.val, sV, nI, atI_zero, atI_1, atI_2, atI_nat', nv_getD hr, ofString_inj, String.reduceEq, decide_true, Nat.reduceAdd, Nat.reduceLeDiff]
    rfl
  | answer r =>
    have hr : r < p.R.length := by have : r < 4 := hi; omega
    simp only [b_sent_by, ev_bin, ev_ix, ev_and, ev_or, ev_not, ev_neg, ev_tV, ev_tand, ev_tor, ev_tnot, ev_if, ev_chain, ev_acons, ev_tup, ev_lst, ev_new, ev_call, ev_osome, ev_sl, ev_meth, ev_kget, ev_comp, ev_compN, ev_iseq, ev_range1, ev_seq, ev_set, ev_drop, ev_ret, ev_xif, ev_for, fVar, fC, aNil, oNone, xNil, xRetN, fDict, eT, bind_ite, fin3_rt, fin3_nx, fin3_ite, Option.bind_some, Option.bind_none, List.getElem?_cons_zero, List.getElem?_cons_succ, List.set_cons_zero, List.set_cons_succ, vAdd, vSub, vMul, vMod, vFdiv, vPow, vLt, vLe, vGt, vGe, vEq, vNe, vEqB, vIs, vIsnt, DD.isN, vIx_tup, vIx_lst, vIx_frz, gLen_tup, gLen_lst, gLen_frz, gTuple_tup, gTuple_lst, gList_tup, gList_lst, gInt_int, gInt_bl, vSl, wipeE, if_true, if_false, Bool.false_eq_true, decide_eq_true_eq, List.length_cons, List.length_nil, finB_0, cl_non, cl_bl, cl_int, cl_str, cl_tup, cl_lst, cls_nil, cls_cons, gLen_str, ev_zip, ev_enum, ev_text, ev_range2, ev_sub, ev_dput, walked_tup, walked_lst, walked_str, cutL_1, Bool.and_true, Bool.true_and, Bool.not_true, Bool.not_false, PS.val, Ins.val, sV, nI, atI_zero, atI_1, atI_2, atI_3, atI_nat', nv_getD hr, ofString_inj, String.reduceEq, decide_true, decide_false, Nat.reduceAdd, Nat.reduceLeDiff, sentOf]
    cases p.snd with
    | none =>
      simp only [optV, ev_bin, ev_ix, ev_and, ev_or, ev_not, ev_neg, ev_tV, ev_tand, ev_tor, ev_tnot, ev_if, ev_chain, ev_acons, ev_tup, ev_lst, ev_new, ev_call, ev_osome, ev_sl, ev_meth, ev_kget, ev_comp, ev_compN, ev_iseq, ev_range1, ev_seq, ev_set, ev_drop, ev_ret, ev_xif, ev_for, fVar, fC, aNil, oNone, xNil, xRetN, fDict, eT, bind_ite, fin3_rt, fin3_nx, fin3_ite, Option.bind_some, Option.bind_none, List.getElem?_cons_zero, List.getElem?_cons_succ, List.set_cons_zero, List.set_cons_succ, vAdd, vSub, vMul, vMod, vFdiv, vPow, vLt, vLe, vGt, vGe, vEq, vNe, vEqB, vIs, vIsnt, DD.isN, vIx_tup, vIx_lst, vIx_frz, gLen_tup, gLen_lst, gLen_frz, gTuple_tup, gTuple_lst, gList_tup, gList_lst, gInt_int, gInt_bl, vSl, wipeE, if_true, if_false, Bool.false_eq_true, decide_eq_true_eq, List.length_cons, List.length_nil, finB_0, cl_non, cl_bl, cl_int, cl_str, cl_tup, cl_lst, cls_nil, cls_cons, gLen_str, ev_zip, ev_enum, ev_text, ev_range2, ev_sub, ev_dput, walked_tup, walked_lst, walked_str, cutL_1, Bool.and_true, Bool.true_and, Bool.not_true, Bool.not_false, Nat.zero_le]
      rfl
    | some s =>
      simp only [optV, nI, ev_bin, ev_ix, ev_and, ev_or, ev_not, ev_neg, ev_tV, ev_tand, ev_tor, ev_tnot, ev_if, ev_chain, ev_acons, ev_tup, ev_lst, ev_new, ev_call, ev_osome, ev_sl, ev_meth, ev_kget, ev_comp, ev_compN, ev_iseq, ev_range1, ev_seq, ev_set, ev_drop, ev_ret, ev_xif, ev_for, fVar, fC, aNil, oNone, xNil, xRetN, fDict, eT, bind_ite, fin3_rt, fin3_nx, fin3_ite, Option.bind_some, Option.bind_none, List.getElem?_cons_zero, List.getElem?_cons_succ, List.set_cons_zero, List.set_cons_succ, vAdd, vSub, vMul, vMod, vFdiv, vPow, vLt, vLe, vGt, vGe, vEq, vNe, vEqB, vIs, vIsnt, DD.isN, vIx_tup, vIx_lst, vIx_frz, gLen_tup, gLen_lst, gLen_frz, gTuple_tup, gTuple_lst, gList_tup, gList_lst, gInt_int, gInt_bl, vSl, wipeE, if_true, if_false, Bool.false_eq_true, decide_eq_true_eq, List.length_cons, List.length_nil, finB_0, cl_non, cl_bl, cl_int, cl_str, cl_tup, cl_lst, cls_nil, cls_cons, gLen_str, ev_zip, ev_enum, ev_text, ev_range2, ev_sub, ev_dput, walked_tup, walked_lst, walked_str, cutL_1, Bool.and_true, Bool.true_and, Bool.not_true, Bool.not_false, Nat.reduceAdd, Nat.reduceLeDiff]
      rfl
  | give a s =>
    have hs : s < p.S.length := by have := hi.2; omega
    have e : (p.S.map slotV)[s]? = some (slotV (p.S.getD s none)) := by
      rw [List.getElem?_map, List.getElem?_eq_getElem hs, List.getD_eq_getElem?_getD, List.getElem?_eq_getElem hs]
      rfl
    simp only [b_sent_by, ev_bin, ev_ix, ev_and, ev_or, ev_not, ev_neg, ev_tV, ev_tand, ev_tor, ev_tnot, ev_if, ev_chain, ev_acons, ev_tup, ev_lst, ev_new, ev_call, ev_osome, ev_sl, ev_meth, ev_kget, ev_comp, ev_compN, ev_iseq, ev_range1, ev_seq, ev_set, ev_drop, ev_ret, ev_xif, ev_for, fVar, fC, aNil, oNone, xNil, xRetN, fDict, eT, bind_ite, fin3_rt, fin3_nx, fin3_ite, Option.bind_some, Option.bind_none, List.getElem?_cons_zero, List.getElem?_cons_succ, List.set_cons_zero, List.set_cons_succ, vAdd, vSub, vMul, vMod, vFdiv, vPow, vLt, vLe, vGt, vGe, vEq, vNe, vEqB, vIs, vIsnt, DD.isN, vIx_tup, vIx_lst, vIx_frz, gLen_tup, gLen_lst, gLen_frz, gTuple_tup, gTuple_lst, gList_tup, gList_lst, gInt_int, gInt_bl, vSl, wipeE, if_true, if_false, Bool.false_eq_true, decide_eq_true_eq, List.length_cons, List.length_nil, finB_0, cl_non, cl_bl, cl_int, cl_str, cl_tup, cl_lst, cls_nil, cls_cons, gLen_str, ev_zip, ev_enum, ev_text, ev_range2, ev_sub, ev_dput, walked_tup, walked_lst, walked_str, cutL_1, Bool.and_true, Bool.true_and, Bool.not_true, Bool.not_false, PS.val, Ins.val, sV, nI, atI_zero, atI_1, atI_2, atI_3, atI_nat', e, ofString_inj, String.reduceEq, decide_true, decide_false, Nat.reduceAdd, Nat.reduceLeDiff, sentOf]
    cases p.S.getD s none with
    | none =>
      simp only [slotV, ev_bin, ev_ix, ev_and, ev_or, ev_not, ev_neg, ev_tV, ev_tand, ev_tor, ev_tnot, ev_if, ev_chain, ev_acons, ev_tup, ev_lst, ev_new, ev_call, ev_osome, ev_sl, ev_meth, ev_kget, ev_comp, ev_compN, ev_iseq, ev_range1, ev_seq, ev_set, ev_drop, ev_ret, ev_xif, ev_for, fVar, fC, aNil, oNone, xNil, xRetN, fDict, eT, bind_ite, fin3_rt, fin3_nx, fin3_ite, Option.bind_some, Option.bind_none, List.getElem?_cons_zero, List.getElem?_cons_succ, List.set_cons_zero, List.set_cons_succ, vAdd, vSub, vMul, vMod, vFdiv, vPow, vLt, vLe, vGt, vGe, vEq, vNe, vEqB, vIs, vIsnt, DD.isN, vIx_tup, vIx_lst, vIx_frz, gLen_tup, gLen_lst, gLen_frz, gTuple_tup, gTuple_lst, gList_tup, gList_lst, gInt_int, gInt_bl, vSl, wipeE, if_true, if_false, Bool.false_eq_true, decide_eq_true_eq, List.length_cons, List.length_nil, finB_0, cl_non, cl_bl, cl_int, cl_str, cl_tup, cl_lst, cls_nil, cls_cons, gLen_str, ev_zip, ev_enum, ev_text, ev_range2, ev_sub, ev_dput, walked_tup, walked_lst, walked_str, cutL_1, Bool.and_true, Bool.true_and, Bool.not_true, Bool.not_false, Nat.zero_le]
      rfl
    | some x =>
      obtain ⟨x, y⟩ := x
      simp only [slotV, nI, ev_bin, ev_ix, ev_and, ev_or, ev_not, ev_neg, ev_tV, ev_tand, ev_tor, ev_tnot, ev_if, ev_chain, ev_acons, ev_tup, ev_lst, ev_new, ev_call, ev_osome, ev_sl, ev_meth, ev_kget, ev_comp, ev_compN, ev_iseq, ev_range1, ev_seq, ev_set, ev_drop, ev_ret, ev_xif, ev_for, fVar, fC, aNil, oNone, xNil, xRetN, fDict, eT, bind_ite, fin3_rt, fin3_nx, fin3_ite, Option.bind_some, Option.bind_none, List.getElem?_cons_zero, List.getElem?_cons_succ, List.set_cons_zero, List.set_cons_succ, vAdd, vSub, vMul, vMod, vFdiv, vPow, vLt, vLe, vGt, vGe, vEq, vNe, vEqB, vIs, vIsnt, DD.isN, vIx_tup, vIx_lst, vIx_frz, gLen_tup, gLen_lst, gLen_frz, gTuple_tup, gTuple_lst, gList_tup, gList_lst, gInt_int, gInt_bl, vSl, wipeE, if_true, if_false, Bool.false_eq_true, decide_eq_true_eq, List.length_cons, List.length_nil, finB_0, cl_non, cl_bl, cl_int, cl_str, cl_tup, cl_lst, cls_nil, cls_cons, gLen_str, ev_zip, ev_enum, ev_text, ev_range2, ev_sub, ev_dput, walked_tup, walked_lst, walked_str, cutL_1, Bool.and_true, Bool.true_and, Bool.not_true, Bool.not_false, Nat.reduceAdd, Nat.reduceLeDiff, List.cons_append, List.nil_append]
      rfl
  | _ =>
    simp only [b_sent_by, ev_bin, ev_ix, ev_and, ev_or, ev_not, ev_neg, ev_tV, ev_tand, ev_tor, ev_tnot, ev_if, ev_chain, ev_acons, ev_tup, ev_lst, ev_new, ev_call, ev_osome, ev_sl, ev_meth, ev_kget, ev_comp, ev_compN, ev_iseq, ev_range1, ev_seq, ev_set, ev_drop, ev_ret, ev_xif, ev_for, fVar, fC, aNil, oNone, xNil, xRetN, fDict, eT, bind_ite, fin3_rt, fin3_nx, fin3_ite, Option.bind_some, Option.bind_none, List.getElem?_cons_zero, List.getElem?_cons_succ, List.set_cons_zero, List.set_cons_succ, vAdd, vSub, vMul, vMod, vFdiv, vPow, vLt, vLe, vGt, vGe, vEq, vNe, vEqB, vIs, vIsnt, DD.isN, vIx_tup, vIx_lst, vIx_frz, gLen_tup, gLen_lst, gLen_frz, gTuple_tup, gTuple_lst, gList_tup, gList_lst, gInt_int, gInt_bl, vSl, wipeE, if_true, if_false, Bool.false_eq_true, decide_eq_true_eq, List.length_cons, List.length_nil, finB_0, cl_non, cl_bl, cl_int, cl_str, cl_tup, cl_lst, cls_nil, cls_cons, gLen_str, ev_zip, ev_enum, ev_text, ev_range2, ev_sub, ev_dput, walked_tup, walked_lst, walked_str, cutL_1, Bool.and_true, Bool.true_and, Bool.not_true, Bool.not_false, PS.val, Ins.val, sV, nI, atI_zero, ofString_inj, String.reduceEq, decide_false, Nat.zero_le]
    rfl
theorem can_first {i : Ins} {c : List Nat} (h : canN k p = true) (hn : nextI k p = some i) (hc : crowdOf i = some c) : ∃ j s y, firstOf p.box c = some j ∧ p.box[j]? = some (s, y) := by
  unfold canN at h
  rw [Bool.and_eq_true] at h
  have h2 := h.2
  unfold waitsN at h2
  simp only [hn, hc] at h2
  cases hf : firstOf p.box c with
  | none => rw [hf] at h2; cases h2
  | some j =>
    obtain ⟨s, y, hy, _⟩ := firstOf_some hf
    exact ⟨j, s, y, rfl, hy⟩
theorem act_cl {q : PS} {l : List (Nat × Pay)} {m : Nat} : cl m (.tup [q.val, .lst (l.map sendV)]) = true := by
  rw [cl_tup, cls_cons, cls_cons, cls_nil, okD_cl PS.okD, sends_cl]; rfl
theorem n_act {i : Ins} {c n : Nat} (hp : p.ok) (hn : nextI k p = some i) (hc : canN k p = true) (hi : i.ok c n) : g_act [codeV k, .int (n : Int), p.val] st = some (.tup [(stepOf n i p).val, .lst ((sentOf i p).map sendV)], st) := by
  have hk := next_get hn
  have e := n_sent (st := st) hp hi
  have fin : ∀ q : PS, finB st st (.tup [q.val, .lst ((sentOf i p).map sendV)]) = some (.tup [q.val, .lst ((sentOf i p).map sendV)], st) := fun q => finB_0 act_cl
  simp only [PS.val, nI] at e
  rw [gd_act]
  simp only [b_act, ev_bin, ev_ix, ev_and, ev_or, ev_not, ev_neg, ev_tV, ev_tand, ev_tor, ev_tnot, ev_if, ev_chain, ev_acons, ev_tup, ev_lst, ev_new, ev_call, ev_osome, ev_sl, ev_meth, ev_kget, ev_comp, ev_compN, ev_iseq, ev_range1, ev_seq, ev_set, ev_drop, ev_ret, ev_xif, ev_for, fVar, fC, aNil, oNone, xNil, xRetN, fDict, eT, bind_ite, fin3_rt, fin3_nx, fin3_ite, Option.bind_some, Option.bind_none, List.getElem?_cons_zero, List.getElem?_cons_succ, List.set_cons_zero, List.set_cons_succ, vAdd, vSub, vMul, vMod, vFdiv, vPow, vLt, vLe, vGt, vGe, vEq, vNe, vEqB, vIs, vIsnt, DD.isN, vIx_tup, vIx_lst, vIx_frz, gLen_tup, gLen_lst, gLen_frz, gTuple_tup, gTuple_lst, gList_tup, gList_lst, gInt_int, gInt_bl, vSl, wipeE, if_true, if_false, Bool.false_eq_true, decide_eq_true_eq, List.length_cons, List.length_nil, finB_0, cl_non, cl_bl, cl_int, cl_str, cl_tup, cl_lst, cls_nil, cls_cons, gLen_str, ev_zip, ev_enum, ev_text, ev_range2, ev_sub, ev_dput, walked_tup, walked_lst, walked_str, cutL_1, Bool.and_true, Bool.true_and, Bool.not_true, Bool.not_false, eT, sets, PS.val, codeV, nI, atI_nat', List.getElem?_map, hk, Option.map_some, e]
  simp only [PS.val, nI, cast_1] at fin
  cases i with
  | set r v =>
    have e2 := n_reg_set (st := st) (v := v) hp (show r < 4 from hi.1)
    simp only [PS.val, Ins.val, sV, nI, cast_1] at e2
    simp only [Ins.val, sV, nI, ev_bin, ev_ix, ev_and, ev_or, ev_not, ev_neg, ev_tV, ev_tand, ev_tor, ev_tnot, ev_if, ev_chain, ev_acons, ev_tup, ev_lst, ev_new, ev_call, ev_osome, ev_sl, ev_meth, ev_kget, ev_comp, ev_compN, ev_iseq, ev_range1, ev_seq, ev_set, ev_drop, ev_ret, ev_xif, ev_for, fVar, fC, aNil, oNone, xNil, xRetN, fDict, eT, bind_ite, fin3_rt, fin3_nx, fin3_ite, Option.bind_some, Option.bind_none, List.getElem?_cons_zero, List.getElem?_cons_succ, List.set_cons_zero, List.set_cons_succ, vAdd, vSub, vMul, vMod, vFdiv, vPow, vLt, vLe, vGt, vGe, vEq, vNe, vEqB, vIs, vIsnt, DD.isN, vIx_tup, vIx_lst, vIx_frz, gLen_tup, gLen_lst, gLen_frz, gTuple_tup, gTuple_lst, gList_tup, gList_lst, gInt_int, gInt_bl, vSl, wipeE, if_true, if_false, Bool.false_eq_true, decide_eq_true_eq, List.length_cons, List.length_nil, finB_0, cl_non, cl_bl, cl_int, cl_str, cl_tup, cl_lst, cls_nil, cls_cons, gLen_str, ev_zip, ev_enum, ev_text, ev_range2, ev_sub, ev_dput, walked_tup, walked_lst, walked_str, cutL_1, Bool.and_true, Bool.true_and, Bool.not_true, Bool.not_false, atI_zero, vIn_t3, vIn_t2, ofString_inj, String.reduceEq, decide_true, decide_false, Bool.or_false, Bool.or_true, Bool.true_or, Bool.false_or, Nat.reduceAdd, Nat.reduceLeDiff, e2, eT, sets, stepOf, cast_1]
    exact fin (stepOf n (.set r v) p)
  | add r q =>
    have e2 := n_reg_add (st := st) hp (show r < 4 from hi.1) (show q < 4 from hi.2)
    simp only [PS.val, Ins.val, sV, nI, cast_1] at e2
    simp only [Ins.val, sV, nI, ev_bin, ev_ix, ev_and, ev_or, ev_not, ev_neg, ev_tV, ev_tand, ev_tor, ev_tnot, ev_if, ev_chain, ev_acons, ev_tup, ev_lst, ev_new, ev_call, ev_osome, ev_sl, ev_meth, ev_kget, ev_comp, ev_compN, ev_iseq, ev_range1, ev_seq, ev_set, ev_drop, ev_ret, ev_xif, ev_for, fVar, fC, aNil, oNone, xNil, xRetN, fDict, eT, bind_ite, fin3_rt, fin3_nx, fin3_ite, Option.bind_some, Option.bind_none, List.getElem?_cons_zero, List.getElem?_cons_succ, List.set_cons_zero, List.set_cons_succ, vAdd, vSub, vMul, vMod, vFdiv, vPow, vLt, vLe, vGt, vGe, vEq, vNe, vEqB, vIs, vIsnt, DD.isN, vIx_tup, vIx_lst, vIx_frz, gLen_tup, gLen_lst, gLen_frz, gTuple_tup, gTuple_lst, gList_tup, gList_lst, gInt_int, gInt_bl, vSl, wipeE, if_true, if_false, Bool.false_eq_true, decide_eq_true_eq, List.length_cons, List.length_nil, finB_0, cl_non, cl_bl, cl_int, cl_str, cl_tup, cl_lst, cls_nil, cls_cons, gLen_str, ev_zip, ev_enum, ev_text, ev_range2, ev_sub, ev_dput, walked_tup, walked_lst, walked_str, cutL_1, Bool.and_true, Bool.true_and, Bool.not_true, Bool.not_false, atI_zero, vIn_t3, vIn_t2, ofString_inj, String.reduceEq, decide_true, decide_false, Bool.or_false, Bool.or_true, Bool.true_or, Bool.false_or, Nat.reduceAdd, Nat.reduceLeDiff, e2, eT, sets, stepOf, cast_1]
    exact fin (stepOf n (.add r q) p)
  | test r q =>
    have e2 := n_reg_test (st := st) (q := q) hp (show r < 4 from hi.1)
    simp only [PS.val, Ins.val, sV, nI] at e2
    simp only [Ins.val, sV, nI, ev_bin, ev_ix, ev_and, ev_or, ev_not, ev_neg, ev_tV, ev_tand, ev_tor, ev_tnot, ev_if, ev_chain, ev_acons, ev_tup, ev_lst, ev_new, ev_call, ev_osome, ev_sl, ev_meth, ev_kget, ev_comp, ev_compN, ev_iseq, ev_range1, ev_seq, ev_set, ev_drop, ev_ret, ev_xif, ev_for, fVar, fC, aNil, oNone, xNil, xRetN, fDict, eT, bind_ite, fin3_rt, fin3_nx, fin3_ite, Option.bind_some, Option.bind_none, List.getElem?_cons_zero, List.getElem?_cons_succ, List.set_cons_zero, List.set_cons_succ, vAdd, vSub, vMul, vMod, vFdiv, vPow, vLt, vLe, vGt, vGe, vEq, vNe, vEqB, vIs, vIsnt, DD.isN, vIx_tup, vIx_lst, vIx_frz, gLen_tup, gLen_lst, gLen_frz, gTuple_tup, gTuple_lst, gList_tup, gList_lst, gInt_int, gInt_bl, vSl, wipeE, if_true, if_false, Bool.false_eq_true, decide_eq_true_eq, List.length_cons, List.length_nil, finB_0, cl_non, cl_bl, cl_int, cl_str, cl_tup, cl_lst, cls_nil, cls_cons, gLen_str, ev_zip, ev_enum, ev_text, ev_range2, ev_sub, ev_dput, walked_tup, walked_lst, walked_str, cutL_1, Bool.and_true, Bool.true_and, Bool.not_true, Bool.not_false, atI_zero, vIn_t3, vIn_t2, ofString_inj, String.reduceEq, decide_true, decide_false, Bool.or_false, Bool.or_true, Bool.true_or, Bool.false_or, Nat.reduceAdd, Nat.reduceLeDiff, e2, eT, sets, stepOf, cast_1]
    exact fin (stepOf n (.test r q) p)
  | new s =>
    have e2 := n_slot_new (st := st) (n := n) hp (show s < 3 from hi)
    simp only [PS.val, Ins.val, sV, nI, cast_1] at e2
    simp only [Ins.val, sV, nI, ev_bin, ev_ix, ev_and, ev_or, ev_not, ev_neg, ev_tV, ev_tand, ev_tor, ev_tnot, ev_if, ev_chain, ev_acons, ev_tup, ev_lst, ev_new, ev_call, ev_osome, ev_sl, ev_meth, ev_kget, ev_comp, ev_compN, ev_iseq, ev_range1, ev_seq, ev_set, ev_drop, ev_ret, ev_xif, ev_for, fVar, fC, aNil, oNone, xNil, xRetN, fDict, eT, bind_ite, fin3_rt, fin3_nx, fin3_ite, Option.bind_some, Option.bind_none, List.getElem?_cons_zero, List.getElem?_cons_succ, List.set_cons_zero, List.set_cons_succ, vAdd, vSub, vMul, vMod, vFdiv, vPow, vLt, vLe, vGt, vGe, vEq, vNe, vEqB, vIs, vIsnt, DD.isN, vIx_tup, vIx_lst, vIx_frz, gLen_tup, gLen_lst, gLen_frz, gTuple_tup, gTuple_lst, gList_tup, gList_lst, gInt_int, gInt_bl, vSl, wipeE, if_true, if_false, Bool.false_eq_true, decide_eq_true_eq, List.length_cons, List.length_nil, finB_0, cl_non, cl_bl, cl_int, cl_str, cl_tup, cl_lst, cls_nil, cls_cons, gLen_str, ev_zip, ev_enum, ev_text, ev_range2, ev_sub, ev_dput, walked_tup, walked_lst, walked_str, cutL_1, Bool.and_true, Bool.true_and, Bool.not_true, Bool.not_false, atI_zero, vIn_t3, vIn_t2, ofString_inj, String.reduceEq, decide_true, decide_false, Bool.or_false, Bool.or_true, Bool.true_or, Bool.false_or, Nat.reduceAdd, Nat.reduceLeDiff, e2, eT, sets, stepOf, cast_1]
    exact fin (stepOf n (.new s) p)
  | drop s =>
    have e2 := n_slot_drop (st := st) (n := n) hp (show s < 3 from hi)
    simp only [PS.val, Ins.val, sV, nI] at e2
    simp only [Ins.val, sV, nI, ev_bin, ev_ix, ev_and, ev_or, ev_not, ev_neg, ev_tV, ev_tand, ev_tor, ev_tnot, ev_if, ev_chain, ev_acons, ev_tup, ev_lst, ev_new, ev_call, ev_osome, ev_sl, ev_meth, ev_kget, ev_comp, ev_compN, ev_iseq, ev_range1, ev_seq, ev_set, ev_drop, ev_ret, ev_xif, ev_for, fVar, fC, aNil, oNone, xNil, xRetN, fDict, eT, bind_ite, fin3_rt, fin3_nx, fin3_ite, Option.bind_some, Option.bind_none, List.getElem?_cons_zero, List.getElem?_cons_succ, List.set_cons_zero, List.set_cons_succ, vAdd, vSub, vMul, vMod, vFdiv, vPow, vLt, vLe, vGt, vGe, vEq, vNe, vEqB, vIs, vIsnt, DD.isN, vIx_tup, vIx_lst, vIx_frz, gLen_tup, gLen_lst, gLen_frz, gTuple_tup, gTuple_lst, gList_tup, gList_lst, gInt_int, gInt_bl, vSl, wipeE, if_true, if_false, Bool.false_eq_true, decide_eq_true_eq, List.length_cons, List.length_nil, finB_0, cl_non, cl_bl, cl_int, cl_str, cl_tup, cl_lst, cls_nil, cls_cons, gLen_str, ev_zip, ev_enum, ev_text, ev_range2, ev_sub, ev_dput, walked_tup, walked_lst, walked_str, cutL_1, Bool.and_true, Bool.true_and, Bool.not_true, Bool.not_false, atI_zero, vIn_t3, vIn_t2, ofString_inj, String.reduceEq, decide_true, decide_false, Bool.or_false, Bool.or_true, Bool.true_or, Bool.false_or, Nat.reduceAdd, Nat.reduceLeDiff, e2, eT, sets, stepOf, cast_1]
    exact fin (stepOf n (.drop s) p)
  | get r cr =>
    obtain ⟨j, s, y, f1, f2⟩ := can_first hc hn rfl
    have e2 := n_get (st := st) hp (show r < 4 from hi.1) f1 f2
    simp only [PS.val, Ins.val, sV, nI] at e2
    simp only [Ins.val, sV, nI, ev_bin, ev_ix, ev_and, ev_or, ev_not, ev_neg, ev_tV, ev_tand, ev_tor, ev_tnot, ev_if, ev_chain, ev_acons, ev_tup, ev_lst, ev_new, ev_call, ev_osome, ev_sl, ev_meth, ev_kget, ev_comp, ev_compN, ev_iseq, ev_range1, ev_seq, ev_set, ev_drop, ev_ret, ev_xif, ev_for, fVar, fC, aNil, oNone, xNil, xRetN, fDict, eT, bind_ite, fin3_rt, fin3_nx, fin3_ite, Option.bind_some, Option.bind_none, List.getElem?_cons_zero, List.getElem?_cons_succ, List.set_cons_zero, List.set_cons_succ, vAdd, vSub, vMul, vMod, vFdiv, vPow, vLt, vLe, vGt, vGe, vEq, vNe, vEqB, vIs, vIsnt, DD.isN, vIx_tup, vIx_lst, vIx_frz, gLen_tup, gLen_lst, gLen_frz, gTuple_tup, gTuple_lst, gList_tup, gList_lst, gInt_int, gInt_bl, vSl, wipeE, if_true, if_false, Bool.false_eq_true, decide_eq_true_eq, List.length_cons, List.length_nil, finB_0, cl_non, cl_bl, cl_int, cl_str, cl_tup, cl_lst, cls_nil, cls_cons, gLen_str, ev_zip, ev_enum, ev_text, ev_range2, ev_sub, ev_dput, walked_tup, walked_lst, walked_str, cutL_1, Bool.and_true, Bool.true_and, Bool.not_true, Bool.not_false, atI_zero, vIn_t3, vIn_t2, ofString_inj, String.reduceEq, decide_true, decide_false, Bool.or_false, Bool.or_true, Bool.true_or, Bool.false_or, Nat.reduceAdd, Nat.reduceLeDiff, e2, eT, sets, stepOf, f1, f2, cast_1]
    have := fin (stepOf n (.get r cr) p)
    simp only [stepOf, f1, f2, optV, nI, cast_1] at this
    exact this
  | hold r cr =>
    obtain ⟨j, s, y, f1, f2⟩ := can_first hc hn rfl
    have e2 := n_hold (st := st) hp (show r < 3 from hi.1) f1 f2
    simp only [PS.val, Ins.val, sV, nI] at e2
    simp only [Ins.val, sV, nI, ev_bin, ev_ix, ev_and, ev_or, ev_not, ev_neg, ev_tV, ev_tand, ev_tor, ev_tnot, ev_if, ev_chain, ev_acons, ev_tup, ev_lst, ev_new, ev_call, ev_osome, ev_sl, ev_meth, ev_kget, ev_comp, ev_compN, ev_iseq, ev_range1, ev_seq, ev_set, ev_drop, ev_ret, ev_xif, ev_for, fVar, fC, aNil, oNone, xNil, xRetN, fDict, eT, bind_ite, fin3_rt, fin3_nx, fin3_ite, Option.bind_some, Option.bind_none, List.getElem?_cons_zero, List.getElem?_cons_succ, List.set_cons_zero, List.set_cons_succ, vAdd, vSub, vMul, vMod, vFdiv, vPow, vLt, vLe, vGt, vGe, vEq, vNe, vEqB, vIs, vIsnt, DD.isN, vIx_tup, vIx_lst, vIx_frz, gLen_tup, gLen_lst, gLen_frz, gTuple_tup, gTuple_lst, gList_tup, gList_lst, gInt_int, gInt_bl, vSl, wipeE, if_true, if_false, Bool.false_eq_true, decide_eq_true_eq, List.length_cons, List.length_nil, finB_0, cl_non, cl_bl, cl_int, cl_str, cl_tup, cl_lst, cls_nil, cls_cons, gLen_str, ev_zip, ev_enum, ev_text, ev_range2, ev_sub, ev_dput, walked_tup, walked_lst, walked_str, cutL_1, Bool.and_true, Bool.true_and, Bool.not_true, Bool.not_false, atI_zero, vIn_t3, vIn_t2, ofString_inj, String.reduceEq, decide_true, decide_false, Bool.or_false, Bool.or_true, Bool.true_or, Bool.false_or, Nat.reduceAdd, Nat.reduceLeDiff, e2, eT, sets, stepOf, f1, f2, cast_1]
    have := fin (stepOf n (.hold r cr) p)
    simp only [stepOf, f1, f2, optV, nI, cast_1] at this
    exact this
  | fin =>
    unfold nextI at hn
    rw [hk] at hn
    simp [isFin] at hn
  | send a r =>
    simp only [Ins.val, sV, nI, ev_bin, ev_ix, ev_and, ev_or, ev_not, ev_neg, ev_tV, ev_tand, ev_tor, ev_tnot, ev_if, ev_chain, ev_acons, ev_tup, ev_lst, ev_new, ev_call, ev_osome, ev_sl, ev_meth, ev_kget, ev_comp, ev_compN, ev_iseq, ev_range1, ev_seq, ev_set, ev_drop, ev_ret, ev_xif, ev_for, fVar, fC, aNil, oNone, xNil, xRetN, fDict, eT, bind_ite, fin3_rt, fin3_nx, fin3_ite, Option.bind_some, Option.bind_none, List.getElem?_cons_zero, List.getElem?_cons_succ, List.set_cons_zero, List.set_cons_succ, vAdd, vSub, vMul, vMod, vFdiv, vPow, vLt, vLe, vGt, vGe, vEq, vNe, vEqB, vIs, vIsnt, DD.isN, vIx_tup, vIx_lst, vIx_frz, gLen_tup, gLen_lst, gLen_frz, gTuple_tup, gTuple_lst, gList_tup, gList_lst, gInt_int, gInt_bl, vSl, wipeE, if_true, if_false, Bool.false_eq_true, decide_eq_true_eq, List.length_cons, List.length_nil, finB_0, cl_non, cl_bl, cl_int, cl_str, cl_tup, cl_lst, cls_nil, cls_cons, gLen_str, ev_zip, ev_enum, ev_text, ev_range2, ev_sub, ev_dput, walked_tup, walked_lst, walked_str, cutL_1, Bool.and_true, Bool.true_and, Bool.not_true, Bool.not_false, atI_zero, vIn_t3, vIn_t2, ofString_inj, String.reduceEq, decide_true, decide_false, Bool.or_false, Bool.or_true, Bool.true_or, Bool.false_or, Nat.reduceAdd, Nat.reduceLeDiff, stepOf, cast_1]
    exact fin (stepOf n (.send a r) p)
  | answer r =>
    simp only [Ins.val, sV, nI, ev_bin, ev_ix, ev_and, ev_or, ev_not, ev_neg, ev_tV, ev_tand, ev_tor, ev_tnot, ev_if, ev_chain, ev_acons, ev_tup, ev_lst, ev_new, ev_call, ev_osome, ev_sl, ev_meth, ev_kget, ev_comp, ev_compN, ev_iseq, ev_range1, ev_seq, ev_set, ev_drop, ev_ret, ev_xif, ev_for, fVar, fC, aNil, oNone, xNil, xRetN, fDict, eT, bind_ite, fin3_rt, fin3_nx, fin3_ite, Option.bind_some, Option.bind_none, List.getElem?_cons_zero, List.getElem?_cons_succ, List.set_cons_zero, List.set_cons_succ, vAdd, vSub, vMul, vMod, vFdiv, vPow, vLt, vLe, vGt, vGe, vEq, vNe, vEqB, vIs, vIsnt, DD.isN, vIx_tup, vIx_lst, vIx_frz, gLen_tup, gLen_lst, gLen_frz, gTuple_tup, gTuple_lst, gList_tup, gList_lst, gInt_int, gInt_bl, vSl, wipeE, if_true, if_false, Bool.false_eq_true, decide_eq_true_eq, List.length_cons, List.length_nil, finB_0, cl_non, cl_bl, cl_int, cl_str, cl_tup, cl_lst, cls_nil, cls_cons, gLen_str, ev_zip, ev_enum, ev_text, ev_range2, ev_sub, ev_dput, walked_tup, walked_lst, walked_str, cutL_1, Bool.and_true, Bool.true_and, Bool.not_true, Bool.not_false, atI_zero, vIn_t3, vIn_t2, ofString_inj, String.reduceEq, decide_true, decide_false, Bool.or_false, Bool.or_true, Bool.true_or, Bool.false_or, Nat.reduceAdd, Nat.reduceLeDiff, stepOf, cast_1]
    exact fin (stepOf n (.answer r) p)
  | give a s =>
    simp only [Ins.val, sV, nI, ev_bin, ev_ix, ev_and, ev_or, ev_not, ev_neg, ev_tV, ev_tand, ev_tor, ev_tnot, ev_if, ev_chain, ev_acons, ev_tup, ev_lst, ev_new, ev_call, ev_osome, ev_sl, ev_meth, ev_kget, ev_comp, ev_compN, ev_iseq, ev_range1, ev_seq, ev_set, ev_drop, ev_ret, ev_xif, ev_for, fVar, fC, aNil, oNone, xNil, xRetN, fDict, eT, bind_ite, fin3_rt, fin3_nx, fin3_ite, Option.bind_some, Option.bind_none, List.getElem?_cons_zero, List.getElem?_cons_succ, List.set_cons_zero, List.set_cons_succ, vAdd, vSub, vMul, vMod, vFdiv, vPow, vLt, vLe, vGt, vGe, vEq, vNe, vEqB, vIs, vIsnt, DD.isN, vIx_tup, vIx_lst, vIx_frz, gLen_tup, gLen_lst, gLen_frz, gTuple_tup, gTuple_lst, gList_tup, gList_lst, gInt_int, gInt_bl, vSl, wipeE, if_true, if_false, Bool.false_eq_true, decide_eq_true_eq, List.length_cons, List.length_nil, finB_0, cl_non, cl_bl, cl_int, cl_str, cl_tup, cl_lst, cls_nil, cls_cons, gLen_str, ev_zip, ev_enum, ev_text, ev_range2, ev_sub, ev_dput, walked_tup, walked_lst, walked_str, cutL_1, Bool.and_true, Bool.true_and, Bool.not_true, Bool.not_false, atI_zero, vIn_t3, vIn_t2, ofString_inj, String.reduceEq, decide_true, decide_false, Bool.or_false, Bool.or_true, Bool.true_or, Bool.false_or, Nat.reduceAdd, Nat.reduceLeDiff, stepOf, cast_1]
    exact fin (stepOf n (.give a s) p)
  | shw r =>
    simp only [Ins.val, sV, nI, ev_bin, ev_ix, ev_and, ev_or, ev_not, ev_neg, ev_tV, ev_tand, ev_tor, ev_tnot, ev_if, ev_chain, ev_acons, ev_tup, ev_lst, ev_new, ev_call, ev_osome, ev_sl, ev_meth, ev_kget, ev_comp, ev_compN, ev_iseq, ev_range1, ev_seq, ev_set, ev_drop, ev_ret, ev_xif, ev_for, fVar, fC, aNil, oNone, xNil, xRetN, fDict, eT, bind_ite, fin3_rt, fin3_nx, fin3_ite, Option.bind_some, Option.bind_none, List.getElem?_cons_zero, List.getElem?_cons_succ, List.set_cons_zero, List.set_cons_succ, vAdd, vSub, vMul, vMod, vFdiv, vPow, vLt, vLe, vGt, vGe, vEq, vNe, vEqB, vIs, vIsnt, DD.isN, vIx_tup, vIx_lst, vIx_frz, gLen_tup, gLen_lst, gLen_frz, gTuple_tup, gTuple_lst, gList_tup, gList_lst, gInt_int, gInt_bl, vSl, wipeE, if_true, if_false, Bool.false_eq_true, decide_eq_true_eq, List.length_cons, List.length_nil, finB_0, cl_non, cl_bl, cl_int, cl_str, cl_tup, cl_lst, cls_nil, cls_cons, gLen_str, ev_zip, ev_enum, ev_text, ev_range2, ev_sub, ev_dput, walked_tup, walked_lst, walked_str, cutL_1, Bool.and_true, Bool.true_and, Bool.not_true, Bool.not_false, atI_zero, vIn_t3, vIn_t2, ofString_inj, String.reduceEq, decide_true, decide_false, Bool.or_false, Bool.or_true, Bool.true_or, Bool.false_or, Nat.reduceAdd, Nat.reduceLeDiff, stepOf, cast_1]
    exact fin (stepOf n (.shw r) p)
end
end K02

set_option Elab.async false
set_option linter.all false
set_option maxRecDepth 100000
set_option maxHeartbeats 4000000
/-! what the law's own machine does, by states -/
namespace K02
open PySem L2 DD
section
variable {st : Store} {k : List Ins} {p : PS}
theorem l_ended : g__law_ended [codeV k, p.val] st = some (.bl (nextI k p).isNone, st) := by
  rw [gd__law_ended]
  simp only [b__law_ended, ev_bin, ev_ix, ev_and, ev_or, ev_not, ev_neg, ev_tV, ev_tand, ev_tor, ev_tnot, ev_if, ev_chain, ev_acons, ev_tup, ev_lst, ev_new, ev_call, ev_osome, ev_sl, ev_meth, ev_kget, ev_comp, ev_compN, ev_iseq, ev_range1, ev_seq, ev_set, ev_drop, ev_ret, ev_xif, ev_for, fVar, fC, aNil, oNone, xNil, xRetN, fDict, eT, bind_ite, fin3_rt, fin3_nx, fin3_ite, Option.bind_some, Option.bind_none, List.getElem?_cons_zero, List.getElem?_cons_succ, List.set_cons_zero, List.set_cons_succ, vAdd, vSub, vMul, vMod, vFdiv, vPow, vLt, vLe, vGt, vGe, vEq, vNe, vEqB, vIs, vIsnt, DD.isN, vIx_tup, vIx_lst, vIx_frz, gLen_tup, gLen_lst, gLen_frz, gTuple_tup, gTuple_lst, gList_tup, gList_lst, gInt_int, gInt_bl, vSl, wipeE, if_true, if_false, Bool.false_eq_true, decide_eq_true_eq, List.length_cons, List.length_nil, finB_0, cl_non, cl_bl, cl_int, cl_str, cl_tup, cl_lst, cls_nil, cls_cons, gLen_str, ev_zip, ev_enum, ev_text, ev_range2, ev_sub, ev_dput, walked_tup, walked_lst, walked_str, cutL_1, Bool.and_true, Bool.true_and, Bool.not_true, Bool.not_false, PS.val, codeV, nI, atI_zero, atI_5, List.length_map]
  unfold nextI
  cases hk : k[p.at_]? with
  | none =>
    have h1 : ((k.length : Int) ≤ (p.at_ : Int)) := by have := List.getElem?_eq_none_iff.mp hk; omega
    simp only [h1, decide_true, ev_bin, ev_ix, ev_and, ev_or, ev_not, ev_neg, ev_tV, ev_tand, ev_tor, ev_tnot, ev_if, ev_chain, ev_acons, ev_tup, ev_lst, ev_new, ev_call, ev_osome, ev_sl, ev_meth, ev_kget, ev_comp, ev_compN, ev_iseq, ev_range1, ev_seq, ev_set, ev_drop, ev_ret, ev_xif, ev_for, fVar, fC, aNil, oNone, xNil, xRetN, fDict, eT, bind_ite, fin3_rt, fin3_nx, fin3_ite, Option.bind_some, Option.bind_none, List.getElem?_cons_zero, List.getElem?_cons_succ, List.set_cons_zero, List.set_cons_succ, vAdd, vSub, vMul, vMod, vFdiv, vPow, vLt, vLe, vGt, vGe, vEq, vNe, vEqB, vIs, vIsnt, DD.isN, vIx_tup, vIx_lst, vIx_frz, gLen_tup, gLen_lst, gLen_frz, gTuple_tup, gTuple_lst, gList_tup, gList_lst, gInt_int, gInt_bl, vSl, wipeE, if_true, if_false, Bool.false_eq_true, decide_eq_true_eq, List.length_cons, List.length_nil, finB_0, cl_non, cl_bl, cl_int, cl_str, cl_tup, cl_lst, cls_nil, cls_cons, gLen_str, ev_zip, ev_enum, ev_text, ev_range2, ev_sub, ev_dput, walked_tup, walked_lst, walked_str, cutL_1, Bool.and_true, Bool.true_and, Bool.not_true, Bool.not_false, Option.isNone_none]
  | some i =>
    have h1 : ¬ ((k.length : Int) ≤ (p.at_ : Int)) := by have := (List.getElem?_eq_some_iff.mp hk).1; omega
    have h2 : ((40 : Int) ≤ (p.acts : Int)) = (40 ≤ p.acts) := by apply propext; omega
    simp only [h1, decide_false, ev_bin, ev_ix, ev_and, ev_or, ev_not, ev_neg, ev_tV, ev_tand, ev_tor, ev_tnot, ev_if, ev_chain, ev_acons, ev_tup, ev_lst, ev_new, ev_call, ev_osome, ev_sl, ev_meth, ev_kget, ev_comp, ev_compN, ev_iseq, ev_range1, ev_seq, ev_set, ev_drop, ev_ret, ev_xif, ev_for, fVar, fC, aNil, oNone, xNil, xRetN, fDict, eT, bind_ite, fin3_rt, fin3_nx, fin3_ite, Option.bind_some, Option.bind_none, List.getElem?_cons_zero, List.getElem?_cons_succ, List.set_cons_zero, List.set_cons_succ, vAdd, vSub, vMul, vMod, vFdiv, vPow, vLt, vLe, vGt, vGe, vEq, vNe, vEqB, vIs, vIsnt, DD.isN, vIx_tup, vIx_lst, vIx_frz, gLen_tup, gLen_lst, gLen_frz, gTuple_tup, gTuple_lst, gList_tup, gList_lst, gInt_int, gInt_bl, vSl, wipeE, if_true, if_false, Bool.false_eq_true, decide_eq_true_eq, List.length_cons, List.length_nil, finB_0, cl_non, cl_bl, cl_int, cl_str, cl_tup, cl_lst, cls_nil, cls_cons, gLen_str, ev_zip, ev_enum, ev_text, ev_range2, ev_sub, ev_dput, walked_tup, walked_lst, walked_str, cutL_1, Bool.and_true, Bool.true_and, Bool.not_true, Bool.not_false, atI_nat', List.getElem?_map, hk, Option.map_some]
    by_cases h40 : 40 ≤ p.acts
    · cases i <;> simp only [Ins.val, sV, nI, ev_bin, ev_ix, ev_and, ev_or, ev_not, ev_neg, ev_tV, ev_tand, ev_tor, ev_tnot, ev_if, ev_chain, ev_acons, ev_tup, ev_lst, ev_new, ev_call, ev_osome, ev_sl, ev_meth, ev_kget, ev_comp, ev_compN, ev_iseq, ev_range1, ev_seq, ev_set, ev_drop, ev_ret, ev_xif, ev_for, fVar, fC, aNil, oNone, xNil, xRetN, fDict, eT, bind_ite, fin3_rt, fin3_nx, fin3_ite, Option.bind_some, Option.bind_none, List.getElem?_cons_zero, List.getElem?_cons_succ, List.set_cons_zero, List.set_cons_succ, vAdd, vSub, vMul, vMod, vFdiv, vPow, vLt, vLe, vGt, vGe, vEq, vNe, vEqB, vIs, vIsnt, DD.isN, vIx_tup, vIx_lst, vIx_frz, gLen_tup, gLen_lst, gLen_frz, gTuple_tup, gTuple_lst, gList_tup, gList_lst, gInt_int, gInt_bl, vSl, wipeE, if_true, if_false, Bool.false_eq_true, decide_eq_true_eq, List.length_cons, List.length_nil, finB_0, cl_non, cl_bl, cl_int, cl_str, cl_tup, cl_lst, cls_nil, cls_cons, gLen_str, ev_zip, ev_enum, ev_text, ev_range2, ev_sub, ev_dput, walked_tup, walked_lst, walked_str, cutL_1, Bool.and_true, Bool.true_and, Bool.not_true, Bool.not_false, atI_zero, ofString_inj, String.reduceEq, decide_true, decide_false, isFin, atI_5, h2, h40, or_true, or_false, Option.isNone_none, Option.isNone_some]
    · cases i <;> simp only [Ins.val, sV, nI, ev_bin, ev_ix, ev_and, ev_or, ev_not, ev_neg, ev_tV, ev_tand, ev_tor, ev_tnot, ev_if, ev_chain, ev_acons, ev_tup, ev_lst, ev_new, ev_call, ev_osome, ev_sl, ev_meth, ev_kget, ev_comp, ev_compN, ev_iseq, ev_range1, ev_seq, ev_set, ev_drop, ev_ret, ev_xif, ev_for, fVar, fC, aNil, oNone, xNil, xRetN, fDict, eT, bind_ite, fin3_rt, fin3_nx, fin3_ite, Option.bind_some, Option.bind_none, List.getElem?_cons_zero, List.getElem?_cons_succ, List.set_cons_zero, List.set_cons_succ, vAdd, vSub, vMul, vMod, vFdiv, vPow, vLt, vLe, vGt, vGe, vEq, vNe, vEqB, vIs, vIsnt, DD.isN, vIx_tup, vIx_lst, vIx_frz, gLen_tup, gLen_lst, gLen_frz, gTuple_tup, gTuple_lst, gList_tup, gList_lst, gInt_int, gInt_bl, vSl, wipeE, if_true, if_false, Bool.false_eq_true, decide_eq_true_eq, List.length_cons, List.length_nil, finB_0, cl_non, cl_bl, cl_int, cl_str, cl_tup, cl_lst, cls_nil, cls_cons, gLen_str, ev_zip, ev_enum, ev_text, ev_range2, ev_sub, ev_dput, walked_tup, walked_lst, walked_str, cutL_1, Bool.and_true, Bool.true_and, Bool.not_true, Bool.not_false, atI_zero, ofString_inj, String.reduceEq, decide_true, decide_false, isFin, atI_5, h2, h40, or_true, or_false, Option.isNone_none, Option.isNone_some, atI_nat', List.getElem?_map, hk, Option.map_some]
theorem l_first_of {box : List (Nat × Pay)} {c : List Nat} (hb : box.length ≤ 4096) : g__law_first_of [.tup (box.map itemV), .tup (nv c)] st = some (optV (firstOf box c), st) := by
  rw [gd__law_first_of]
  simp only [b__law_first_of, ev_bin, ev_ix, ev_and, ev_or, ev_not, ev_neg, ev_tV, ev_tand, ev_tor, ev_tnot, ev_if, ev_chain, ev_acons, ev_tup, ev_lst, ev_new, ev_call, ev_osome, ev_sl, ev_meth, ev_kget, ev_comp, ev_compN, ev_iseq, ev_range1, ev_seq, ev_set, ev_drop, ev_ret, ev_xif, ev_for, fVar, fC, aNil, oNone, xNil, xRetN, fDict, eT, bind_ite, fin3_rt, fin3_nx, fin3_ite, Option.bind_some, Option.bind_none, List.getElem?_cons_zero, List.getElem?_cons_succ, List.set_cons_zero, List.set_cons_succ, vAdd, vSub, vMul, vMod, vFdiv, vPow, vLt, vLe, vGt, vGe, vEq, vNe, vEqB, vIs, vIsnt, DD.isN, vIx_tup, vIx_lst, vIx_frz, gLen_tup, gLen_lst, gLen_frz, gTuple_tup, gTuple_lst, gList_tup, gList_lst, gInt_int, gInt_bl, vSl, wipeE, if_true, if_false, Bool.false_eq_true, decide_eq_true_eq, List.length_cons, List.length_nil, finB_0, cl_non, cl_bl, cl_int, cl_str, cl_tup, cl_lst, cls_nil, cls_cons, gLen_str, ev_zip, ev_enum, ev_text, ev_range2, ev_sub, ev_dput, walked_tup, walked_lst, walked_str, cutL_1, Bool.and_true, Bool.true_and, Bool.not_true, Bool.not_false, List.length_map]
  rw [if_pos ⟨by omega, by omega⟩, Int.toNat_natCast, idx_rng]
  obtain ⟨env', ⟨o1, rfl⟩, h⟩ := loopF_find (t := .one 2) (body := xIf (tV (fBin vIn (fIx vIx (fIx vIx (fVar 0) (fVar 2)) (fC (.int 0))) (fVar 1))) (xRet (fVar 2)) xNil) (st := st) (fun i _ => nI i) (fun x : Nat × Pay => decide (x.1 ∈ c)) nI (fun env => ∃ o1, env = [some (.tup (box.map itemV)), some (.tup (nv c)), o1]) (l := box) (env := [some (.tup (box.map itemV)), some (.tup (nv c)), none]) ⟨none, rfl⟩ (by
    rintro i x env hx ⟨o1, rfl⟩
    refine ⟨_, _, rfl, ⟨some (nI i), rfl⟩, ?_⟩
    simp only [ev_bin, ev_ix, ev_and, ev_or, ev_not, ev_neg, ev_tV, ev_tand, ev_tor, ev_tnot, ev_if, ev_chain, ev_acons, ev_tup, ev_lst, ev_new, ev_call, ev_osome, ev_sl, ev_meth, ev_kget, ev_comp, ev_compN, ev_iseq, ev_range1, ev_seq, ev_set, ev_drop, ev_ret, ev_xif, ev_for, fVar, fC, aNil, oNone, xNil, xRetN, fDict, eT, bind_ite, fin3_rt, fin3_nx, fin3_ite, Option.bind_some, Option.bind_none, List.getElem?_cons_zero, List.getElem?_cons_succ, List.set_cons_zero, List.set_cons_succ, vAdd, vSub, vMul, vMod, vFdiv, vPow, vLt, vLe, vGt, vGe, vEq, vNe, vEqB, vIs, vIsnt, DD.isN, vIx_tup, vIx_lst, vIx_frz, gLen_tup, gLen_lst, gLen_frz, gTuple_tup, gTuple_lst, gList_tup, gList_lst, gInt_int, gInt_bl, vSl, wipeE, if_true, if_false, Bool.false_eq_true, decide_eq_true_eq, List.length_cons, List.length_nil, finB_0, cl_non, cl_bl, cl_int, cl_str, cl_tup, cl_lst, cls_nil, cls_cons, gLen_str, ev_zip, ev_enum, ev_text, ev_range2, ev_sub, ev_dput, walked_tup, walked_lst, walked_str, cutL_1, Bool.and_true, Bool.true_and, Bool.not_true, Bool.not_false, nI, atI_nat', List.getElem?_map, hx, Option.map_some, itemV, atI_zero, vIn_nv]
    by_cases hm : x.1 ∈ c <;> simp only [hm, decide_true, decide_false, ev_bin, ev_ix, ev_and, ev_or, ev_not, ev_neg, ev_tV, ev_tand, ev_tor, ev_tnot, ev_if, ev_chain, ev_acons, ev_tup, ev_lst, ev_new, ev_call, ev_osome, ev_sl, ev_meth, ev_kget, ev_comp, ev_compN, ev_iseq, ev_range1, ev_seq, ev_set, ev_drop, ev_ret, ev_xif, ev_for, fVar, fC, aNil, oNone, xNil, xRetN, fDict, eT, bind_ite, fin3_rt, fin3_nx, fin3_ite, Option.bind_some, Option.bind_none, List.getElem?_cons_zero, List.getElem?_cons_succ, List.set_cons_zero, List.set_cons_succ, vAdd, vSub, vMul, vMod, vFdiv, vPow, vLt, vLe, vGt, vGe, vEq, vNe, vEqB, vIs, vIsnt, DD.isN, vIx_tup, vIx_lst, vIx_frz, gLen_tup, gLen_lst, gLen_frz, gTuple_tup, gTuple_lst, gList_tup, gList_lst, gInt_int, gInt_bl, vSl, wipeE, if_true, if_false, Bool.false_eq_true, decide_eq_true_eq, List.length_cons, List.length_nil, finB_0, cl_non, cl_bl, cl_int, cl_str, cl_tup, cl_lst, cls_nil, cls_cons, gLen_str, ev_zip, ev_enum, ev_text, ev_range2, ev_sub, ev_dput, walked_tup, walked_lst, walked_str, cutL_1, Bool.and_true, Bool.true_and, Bool.not_true, Bool.not_false])
  rw [h]
  unfold firstOf
  cases box.findIdx? fun x => decide (x.1 ∈ c) with
  | none => simp only [ev_bin, ev_ix, ev_and, ev_or, ev_not, ev_neg, ev_tV, ev_tand, ev_tor, ev_tnot, ev_if, ev_chain, ev_acons, ev_tup, ev_lst, ev_new, ev_call, ev_osome, ev_sl, ev_meth, ev_kget, ev_comp, ev_compN, ev_iseq, ev_range1, ev_seq, ev_set, ev_drop, ev_ret, ev_xif, ev_for, fVar, fC, aNil, oNone, xNil, xRetN, fDict, eT, bind_ite, fin3_rt, fin3_nx, fin3_ite, Option.bind_some, Option.bind_none, List.getElem?_cons_zero, List.getElem?_cons_succ, List.set_cons_zero, List.set_cons_succ, vAdd, vSub, vMul, vMod, vFdiv, vPow, vLt, vLe, vGt, vGe, vEq, vNe, vEqB, vIs, vIsnt, DD.isN, vIx_tup, vIx_lst, vIx_frz, gLen_tup, gLen_lst, gLen_frz, gTuple_tup, gTuple_lst, gList_tup, gList_lst, gInt_int, gInt_bl, vSl, wipeE, if_true, if_false, Bool.false_eq_true, decide_eq_true_eq, List.length_cons, List.length_nil, finB_0, cl_non, cl_bl, cl_int, cl_str, cl_tup, cl_lst, cls_nil, cls_cons, gLen_str, ev_zip, ev_enum, ev_text, ev_range2, ev_sub, ev_dput, walked_tup, walked_lst, walked_str, cutL_1, Bool.and_true, Bool.true_and, Bool.not_true, Bool.not_false, optV]
  | some j => simp only [ev_bin, ev_ix, ev_and, ev_or, ev_not, ev_neg, ev_tV, ev_tand, ev_tor, ev_tnot, ev_if, ev_chain, ev_acons, ev_tup, ev_lst, ev_new, ev_call, ev_osome, ev_sl, ev_meth, ev_kget, ev_comp, ev_compN, ev_iseq, ev_range1, ev_seq, ev_set, ev_drop, ev_ret, ev_xif, ev_for, fVar, fC, aNil, oNone, xNil, xRetN, fDict, eT, bind_ite, fin3_rt, fin3_nx, fin3_ite, Option.bind_some, Option.bind_none, List.getElem?_cons_zero, List.getElem?_cons_succ, List.set_cons_zero, List.set_cons_succ, vAdd, vSub, vMul, vMod, vFdiv, vPow, vLt, vLe, vGt, vGe, vEq, vNe, vEqB, vIs, vIsnt, DD.isN, vIx_tup, vIx_lst, vIx_frz, gLen_tup, gLen_lst, gLen_frz, gTuple_tup, gTuple_lst, gList_tup, gList_lst, gInt_int, gInt_bl, vSl, wipeE, if_true, if_false, Bool.false_eq_true, decide_eq_true_eq, List.length_cons, List.length_nil, finB_0, cl_non, cl_bl, cl_int, cl_str, cl_tup, cl_lst, cls_nil, cls_cons, gLen_str, ev_zip, ev_enum, ev_text, ev_range2, ev_sub, ev_dput, walked_tup, walked_lst, walked_str, cutL_1, Bool.and_true, Bool.true_and, Bool.not_true, Bool.not_false, optV, nI]
theorem l_waits (hp : p.box.length ≤ 4096) : g__law_waits [codeV k, p.val] st = some (crowdV (waitsN k p), st) := by
  rw [gd__law_waits]
  simp only [b__law_waits, ev_bin, ev_ix, ev_and, ev_or, ev_not, ev_neg, ev_tV, ev_tand, ev_tor, ev_tnot, ev_if, ev_chain, ev_acons, ev_tup, ev_lst, ev_new, ev_call, ev_osome, ev_sl, ev_meth, ev_kget, ev_comp, ev_compN, ev_iseq, ev_range1, ev_seq, ev_set, ev_drop, ev_ret, ev_xif, ev_for, fVar, fC, aNil, oNone, xNil, xRetN, fDict, eT, bind_ite, fin3_rt, fin3_nx, fin3_ite, Option.bind_some, Option.bind_none, List.getElem?_cons_zero, List.getElem?_cons_succ, List.set_cons_zero, List.set_cons_succ, vAdd, vSub, vMul, vMod, vFdiv, vPow, vLt, vLe, vGt, vGe, vEq, vNe, vEqB, vIs, vIsnt, DD.isN, vIx_tup, vIx_lst, vIx_frz, gLen_tup, gLen_lst, gLen_frz, gTuple_tup, gTuple_lst, gList_tup, gList_lst, gInt_int, gInt_bl, vSl, wipeE, if_true, if_false, Bool.false_eq_true, decide_eq_true_eq, List.length_cons, List.length_nil, finB_0, cl_non, cl_bl, cl_int, cl_str, cl_tup, cl_lst, cls_nil, cls_cons, gLen_str, ev_zip, ev_enum, ev_text, ev_range2, ev_sub, ev_dput, walked_tup, walked_lst, walked_str, cutL_1, Bool.and_true, Bool.true_and, Bool.not_true, Bool.not_false, l_ended]
  unfold waitsN
  cases hn : nextI k p with
  | none => simp only [Option.isNone_none, ev_bin, ev_ix, ev_and, ev_or, ev_not, ev_neg, ev_tV, ev_tand, ev_tor, ev_tnot, ev_if, ev_chain, ev_acons, ev_tup, ev_lst, ev_new, ev_call, ev_osome, ev_sl, ev_meth, ev_kget, ev_comp, ev_compN, ev_iseq, ev_range1, ev_seq, ev_set, ev_drop, ev_ret, ev_xif, ev_for, fVar, fC, aNil, oNone, xNil, xRetN, fDict, eT, bind_ite, fin3_rt, fin3_nx, fin3_ite, Option.bind_some, Option.bind_none, List.getElem?_cons_zero, List.getElem?_cons_succ, List.set_cons_zero, List.set_cons_succ, vAdd, vSub, vMul, vMod, vFdiv, vPow, vLt, vLe, vGt, vGe, vEq, vNe, vEqB, vIs, vIsnt, DD.isN, vIx_tup, vIx_lst, vIx_frz, gLen_tup, gLen_lst, gLen_frz, gTuple_tup, gTuple_lst, gList_tup, gList_lst, gInt_int, gInt_bl, vSl, wipeE, if_true, if_false, Bool.false_eq_true, decide_eq_true_eq, List.length_cons, List.length_nil, finB_0, cl_non, cl_bl, cl_int, cl_str, cl_tup, cl_lst, cls_nil, cls_cons, gLen_str, ev_zip, ev_enum, ev_text, ev_range2, ev_sub, ev_dput, walked_tup, walked_lst, walked_str, cutL_1, Bool.and_true, Bool.true_and, Bool.not_true, Bool.not_false, crowdV]
  | some i =>
    have hk := next_get hn
    simp only [Option.isNone_some, ev_bin, ev_ix, ev_and, ev_or, ev_not, ev_neg, ev_tV, ev_tand, ev_tor, ev_tnot, ev_if, ev_chain, ev_acons, ev_tup, ev_lst, ev_new, ev_call, ev_osome, ev_sl, ev_meth, ev_kget, ev_comp, ev_compN, ev_iseq, ev_range1, ev_seq, ev_set, ev_drop, ev_ret, ev_xif, ev_for, fVar, fC, aNil, oNone, xNil, xRetN, fDict, eT, bind_ite, fin3_rt, fin3_nx, fin3_ite, Option.bind_some, Option.bind_none, List.getElem?_cons_zero, List.getElem?_cons_succ, List.set_cons_zero, List.set_cons_succ, vAdd, vSub, vMul, vMod, vFdiv, vPow, vLt, vLe, vGt, vGe, vEq, vNe, vEqB, vIs, vIsnt, DD.isN, vIx_tup, vIx_lst, vIx_frz, gLen_tup, gLen_lst, gLen_frz, gTuple_tup, gTuple_lst, gList_tup, gList_lst, gInt_int, gInt_bl, vSl, wipeE, if_true, if_false, Bool.false_eq_true, decide_eq_true_eq, List.length_cons, List.length_nil, finB_0, cl_non, cl_bl, cl_int, cl_str, cl_tup, cl_lst, cls_nil, cls_cons, gLen_str, ev_zip, ev_enum, ev_text, ev_range2, ev_sub, ev_dput, walked_tup, walked_lst, walked_str, cutL_1, Bool.and_true, Bool.true_and, Bool.not_true, Bool.not_false, PS.val, codeV, nI, atI_zero, atI_nat', List.getElem?_map, hk, Option.map_some]
    cases i with
    | get r c =>
      simp only [Ins.val, sV, nI, ev_bin, ev_ix, ev_and, ev_or, ev_not, ev_neg, ev_tV, ev_tand, ev_tor, ev_tnot, ev_if, ev_chain, ev_acons, ev_tup, ev_lst, ev_new, ev_call, ev_osome, ev_sl, ev_meth, ev_kget, ev_comp, ev_compN, ev_iseq, ev_range1, ev_seq, ev_set, ev_drop, ev_ret, ev_xif, ev_for, fVar, fC, aNil, oNone, xNil, xRetN, fDict, eT, bind_ite, fin3_rt, fin3_nx, fin3_ite, Option.bind_some, Option.bind_none, List.getElem?_cons_zero, List.getElem?_cons_succ, List.set_cons_zero, List.set_cons_succ, vAdd, vSub, vMul, vMod, vFdiv, vPow, vLt, vLe, vGt, vGe, vEq, vNe, vEqB, vIs, vIsnt, DD.isN, vIx_tup, vIx_lst, vIx_frz, gLen_tup, gLen_lst, gLen_frz, gTuple_tup, gTuple_lst, gList_tup, gList_lst, gInt_int, gInt_bl, vSl, wipeE, if_true, if_false, Bool.false_eq_true, decide_eq_true_eq, List.length_cons, List.length_nil, finB_0, cl_non, cl_bl, cl_int, cl_str, cl_tup, cl_lst, cls_nil, cls_cons, gLen_str, ev_zip, ev_enum, ev_text, ev_range2, ev_sub, ev_dput, walked_tup, walked_lst, walked_str, cutL_1, Bool.and_true, Bool.true_and, Bool.not_true, Bool.not_false, atI_zero, atI_2, atI_4, Nat.reduceAdd, Nat.reduceLeDiff, vNotIn_l2, ofString_inj, String.reduceEq, decide_true, decide_false, Bool.or_false, Bool.or_true, Bool.false_or, Bool.true_or, crowdOf, atI_nat', List.getElem?_map, hk, Option.map_some, l_first_of hp]
      cases firstOf p.box c with
      | none => simp only [optV, ev_bin, ev_ix, ev_and, ev_or, ev_not, ev_neg, ev_tV, ev_tand, ev_tor, ev_tnot, ev_if, ev_chain, ev_acons, ev_tup, ev_lst, ev_new, ev_call, ev_osome, ev_sl, ev_meth, ev_kget, ev_comp, ev_compN, ev_iseq, ev_range1, ev_seq, ev_set, ev_drop, ev_ret, ev_xif, ev_for, fVar, fC, aNil, oNone, xNil, xRetN, fDict, eT, bind_ite, fin3_rt, fin3_nx, fin3_ite, Option.bind_some, Option.bind_none, List.getElem?_cons_zero, List.getElem?_cons_succ, List.set_cons_zero, List.set_cons_succ, vAdd, vSub, vMul, vMod, vFdiv, vPow, vLt, vLe, vGt, vGe, vEq, vNe, vEqB, vIs, vIsnt, DD.isN, vIx_tup, vIx_lst, vIx_frz, gLen_tup, gLen_lst, gLen_frz, gTuple_tup, gTuple_lst, gList_tup, gList_lst, gInt_int, gInt_bl, vSl, wipeE, if_true, if_false, Bool.false_eq_true, decide_eq_true_eq, List.length_cons, List.length_nil, finB_0, cl_non, cl_bl, cl_int, cl_str, cl_tup, cl_lst, cls_nil, cls_cons, gLen_str, ev_zip, ev_enum, ev_text, ev_range2, ev_sub, ev_dput, walked_tup, walked_lst, walked_str, cutL_1, Bool.and_true, Bool.true_and, Bool.not_true, Bool.not_false, Option.isSome_none, crowdV, atI_nat', List.getElem?_map, hk, Option.map_some, Ins.val, nI, atI_2, nv_cl]
      | some j => simp only [optV, nI, ev_bin, ev_ix, ev_and, ev_or, ev_not, ev_neg, ev_tV, ev_tand, ev_tor, ev_tnot, ev_if, ev_chain, ev_acons, ev_tup, ev_lst, ev_new, ev_call, ev_osome, ev_sl, ev_meth, ev_kget, ev_comp, ev_compN, ev_iseq, ev_range1, ev_seq, ev_set, ev_drop, ev_ret, ev_xif, ev_for, fVar, fC, aNil, oNone, xNil, xRetN, fDict, eT, bind_ite, fin3_rt, fin3_nx, fin3_ite, Option.bind_some, Option.bind_none, List.getElem?_cons_zero, List.getElem?_cons_succ, List.set_cons_zero, List.set_cons_succ, vAdd, vSub, vMul, vMod, vFdiv, vPow, vLt, vLe, vGt, vGe, vEq, vNe, vEqB, vIs, vIsnt, DD.isN, vIx_tup, vIx_lst, vIx_frz, gLen_tup, gLen_lst, gLen_frz, gTuple_tup, gTuple_lst, gList_tup, gList_lst, gInt_int, gInt_bl, vSl, wipeE, if_true, if_false, Bool.false_eq_true, decide_eq_true_eq, List.length_cons, List.length_nil, finB_0, cl_non, cl_bl, cl_int, cl_str, cl_tup, cl_lst, cls_nil, cls_cons, gLen_str, ev_zip, ev_enum, ev_text, ev_range2, ev_sub, ev_dput, walked_tup, walked_lst, walked_str, cutL_1, Bool.and_true, Bool.true_and, Bool.not_true, Bool.not_false, Option.isSome_some, crowdV]
    | hold r c =>
      simp only [Ins.val, sV, nI, ev_bin, ev_ix, ev_and, ev_or, ev_not, ev_neg, ev_tV, ev_tand, ev_tor, ev_tnot, ev_if, ev_chain, ev_acons, ev_tup, ev_lst, ev_new, ev_call, ev_osome, ev_sl, ev_meth, ev_kget, ev_comp, ev_compN, ev_iseq, ev_range1, ev_seq, ev_set, ev_drop, ev_ret, ev_xif, ev_for, fVar, fC, aNil, oNone, xNil, xRetN, fDict, eT, bind_ite, fin3_rt, fin3_nx, fin3_ite, Option.bind_some, Option.bind_none, List.getElem?_cons_zero, List.getElem?_cons_succ, List.set_cons_zero, List.set_cons_succ, vAdd, vSub, vMul, vMod, vFdiv, vPow, vLt, vLe, vGt, vGe, vEq, vNe, vEqB, vIs, vIsnt, DD.isN, vIx_tup, vIx_lst, vIx_frz, gLen_tup, gLen_lst, gLen_frz, gTuple_tup, gTuple_lst, gList_tup, gList_lst, gInt_int, gInt_bl, vSl, wipeE, if_true, if_false, Bool.false_eq_true, decide_eq_true_eq, List.length_cons, List.length_nil, finB_0, cl_non, cl_bl, cl_int, cl_str, cl_tup, cl_lst, cls_nil, cls_cons, gLen_str, ev_zip, ev_enum, ev_text, ev_range2, ev_sub, ev_dput, walked_tup, walked_lst, walked_str, cutL_1, Bool.and_true, Bool.true_and, Bool.not_true, Bool.not_false, atI_zero, atI_2, atI_4, Nat.reduceAdd, Nat.reduceLeDiff, vNotIn_l2, ofString_inj, String.reduceEq, decide_true, decide_false, Bool.or_false, Bool.or_true, Bool.false_or, Bool.true_or, crowdOf, atI_nat', List.getElem?_map, hk, Option.map_some, l_first_of hp]
      cases firstOf p.box c with
      | none => simp only [optV, ev_bin, ev_ix, ev_and, ev_or, ev_not, ev_neg, ev_tV, ev_tand, ev_tor, ev_tnot, ev_if, ev_chain, ev_acons, ev_tup, ev_lst, ev_new, ev_call, ev_osome, ev_sl, ev_meth, ev_kget, ev_comp, ev_compN, ev_iseq, ev_range1, ev_seq, ev_set, ev_drop, ev_ret, ev_xif, ev_for, fVar, fC, aNil, oNone, xNil, xRetN, fDict, eT, bind_ite, fin3_rt, fin3_nx, fin3_ite, Option.bind_some, Option.bind_none, List.getElem?_cons_zero, List.getElem?_cons_succ, List.set_cons_zero, List.set_cons_succ, vAdd, vSub, vMul, vMod, vFdiv, vPow, vLt, vLe, vGt, vGe, vEq, vNe, vEqB, vIs, vIsnt, DD.isN, vIx_tup, vIx_lst, vIx_frz, gLen_tup, gLen_lst, gLen_frz, gTuple_tup, gTuple_lst, gList_tup, gList_lst, gInt_int, gInt_bl, vSl, wipeE, if_true, if_false, Bool.false_eq_true, decide_eq_true_eq, List.length_cons, List.length_nil, finB_0, cl_non, cl_bl, cl_int, cl_str, cl_tup, cl_lst, cls_nil, cls_cons, gLen_str, ev_zip, ev_enum, ev_text, ev_range2, ev_sub, ev_dput, walked_tup, walked_lst, walked_str, cutL_1, Bool.and_true, Bool.true_and, Bool.not_true, Bool.not_false, Option.isSome_none, crowdV, atI_nat', List.getElem?_map, hk, Option.map_some, Ins.val, nI, atI_2, nv_cl]
      | some j => simp only [optV, nI, ev_bin, ev_ix, ev_and, ev_or, ev_not, ev_neg, ev_tV, ev_tand, ev_tor, ev_tnot, ev_if, ev_chain, ev_acons, ev_tup, ev_lst, ev_new, ev_call, ev_osome, ev_sl, ev_meth, ev_kget, ev_comp, ev_compN, ev_iseq, ev_range1, ev_seq, ev_set, ev_drop, ev_ret, ev_xif, ev_for, fVar, fC, aNil, oNone, xNil, xRetN, fDict, eT, bind_ite, fin3_rt, fin3_nx, fin3_ite, Option.bind_some, Option.bind_none, List.getElem?_cons_zero, List.getElem?_cons_succ, List.set_cons_zero, List.set_cons_succ, vAdd, vSub, vMul, vMod, vFdiv, vPow, vLt, vLe, vGt, vGe, vEq, vNe, vEqB, vIs, vIsnt, DD.isN, vIx_tup, vIx_lst, vIx_frz, gLen_tup, gLen_lst, gLen_frz, gTuple_tup, gTuple_lst, gList_tup, gList_lst, gInt_int, gInt_bl, vSl, wipeE, if_true, if_false, Bool.false_eq_true, decide_eq_true_eq, List.length_cons, List.length_nil, finB_0, cl_non, cl_bl, cl_int, cl_str, cl_tup, cl_lst, cls_nil, cls_cons, gLen_str, ev_zip, ev_enum, ev_text, ev_range2, ev_sub, ev_dput, walked_tup, walked_lst, walked_str, cutL_1, Bool.and_true, Bool.true_and, Bool.not_true, Bool.not_false, Option.isSome_some, crowdV]
    | _ => simp only [Ins.val, sV, nI, ev_bin, ev_ix, ev_and, ev_or, ev_not, ev_neg, ev_tV, ev_tand, ev_tor, ev_tnot, ev_if, ev_chain, ev_acons, ev_tup, ev_lst, ev_new, ev_call, ev_osome, ev_sl, ev_meth, ev_kget, ev_comp, ev_compN, ev_iseq, ev_range1, ev_seq, ev_set, ev_drop, ev_ret, ev_xif, ev_for, fVar, fC, aNil, oNone, xNil, xRetN, fDict, eT, bind_ite, fin3_rt, fin3_nx, fin3_ite, Option.bind_some, Option.bind_none, List.getElem?_cons_zero, List.getElem?_cons_succ, List.set_cons_zero, List.set_cons_succ, vAdd, vSub, vMul, vMod, vFdiv, vPow, vLt, vLe, vGt, vGe, vEq, vNe, vEqB, vIs, vIsnt, DD.isN, vIx_tup, vIx_lst, vIx_frz, gLen_tup, gLen_lst, gLen_frz, gTuple_tup, gTuple_lst, gList_tup, gList_lst, gInt_int, gInt_bl, vSl, wipeE, if_true, if_false, Bool.false_eq_true, decide_eq_true_eq, List.length_cons, List.length_nil, finB_0, cl_non, cl_bl, cl_int, cl_str, cl_tup, cl_lst, cls_nil, cls_cons, gLen_str, ev_zip, ev_enum, ev_text, ev_range2, ev_sub, ev_dput, walked_tup, walked_lst, walked_str, cutL_1, Bool.and_true, Bool.true_and, Bool.not_true, Bool.not_false, atI_zero, atI_2, Nat.reduceAdd, Nat.reduceLeDiff, vNotIn_l2, ofString_inj, String.reduceEq, decide_true, decide_false, Bool.or_false, Bool.or_true, Bool.false_or, Bool.true_or, crowdOf, crowdV]
theorem l_can_act (hp : p.box.length ≤ 4096) : g__law_can_act [codeV k, p.val] st = some (.bl (canN k p), st) := by
  rw [gd__law_can_act]
  simp only [b__law_can_act, ev_bin, ev_ix, ev_and, ev_or, ev_not, ev_neg, ev_tV, ev_tand, ev_tor, ev_tnot, ev_if, ev_chain, ev_acons, ev_tup, ev_lst, ev_new, ev_call, ev_osome, ev_sl, ev_meth, ev_kget, ev_comp, ev_compN, ev_iseq, ev_range1, ev_seq, ev_set, ev_drop, ev_ret, ev_xif, ev_for, fVar, fC, aNil, oNone, xNil, xRetN, fDict, eT, bind_ite, fin3_rt, fin3_nx, fin3_ite, Option.bind_some, Option.bind_none, List.getElem?_cons_zero, List.getElem?_cons_succ, List.set_cons_zero, List.set_cons_succ, vAdd, vSub, vMul, vMod, vFdiv, vPow, vLt, vLe, vGt, vGe, vEq, vNe, vEqB, vIs, vIsnt, DD.isN, vIx_tup, vIx_lst, vIx_frz, gLen_tup, gLen_lst, gLen_frz, gTuple_tup, gTuple_lst, gList_tup, gList_lst, gInt_int, gInt_bl, vSl, wipeE, if_true, if_false, Bool.false_eq_true, decide_eq_true_eq, List.length_cons, List.length_nil, finB_0, cl_non, cl_bl, cl_int, cl_str, cl_tup, cl_lst, cls_nil, cls_cons, gLen_str, ev_zip, ev_enum, ev_text, ev_range2, ev_sub, ev_dput, walked_tup, walked_lst, walked_str, cutL_1, Bool.and_true, Bool.true_and, Bool.not_true, Bool.not_false, l_ended, l_waits hp]
  unfold canN
  cases nextI k p with
  | none => simp only [Option.isNone_none, Option.isSome_none, ev_bin, ev_ix, ev_and, ev_or, ev_not, ev_neg, ev_tV, ev_tand, ev_tor, ev_tnot, ev_if, ev_chain, ev_acons, ev_tup, ev_lst, ev_new, ev_call, ev_osome, ev_sl, ev_meth, ev_kget, ev_comp, ev_compN, ev_iseq, ev_range1, ev_seq, ev_set, ev_drop, ev_ret, ev_xif, ev_for, fVar, fC, aNil, oNone, xNil, xRetN, fDict, eT, bind_ite, fin3_rt, fin3_nx, fin3_ite, Option.bind_some, Option.bind_none, List.getElem?_cons_zero, List.getElem?_cons_succ, List.set_cons_zero, List.set_cons_succ, vAdd, vSub, vMul, vMod, vFdiv, vPow, vLt, vLe, vGt, vGe, vEq, vNe, vEqB, vIs, vIsnt, DD.isN, vIx_tup, vIx_lst, vIx_frz, gLen_tup, gLen_lst, gLen_frz, gTuple_tup, gTuple_lst, gList_tup, gList_lst, gInt_int, gInt_bl, vSl, wipeE, if_true, if_false, Bool.false_eq_true, decide_eq_true_eq, List.length_cons, List.length_nil, finB_0, cl_non, cl_bl, cl_int, cl_str, cl_tup, cl_lst, cls_nil, cls_cons, gLen_str, ev_zip, ev_enum, ev_text, ev_range2, ev_sub, ev_dput, walked_tup, walked_lst, walked_str, cutL_1, Bool.and_true, Bool.true_and, Bool.not_true, Bool.not_false, Bool.false_and]
  | some i =>
    simp only [Option.isNone_some, Option.isSome_some, ev_bin, ev_ix, ev_and, ev_or, ev_not, ev_neg, ev_tV, ev_tand, ev_tor, ev_tnot, ev_if, ev_chain, ev_acons, ev_tup, ev_lst, ev_new, ev_call, ev_osome, ev_sl, ev_meth, ev_kget, ev_comp, ev_compN, ev_iseq, ev_range1, ev_seq, ev_set, ev_drop, ev_ret, ev_xif, ev_for, fVar, fC, aNil, oNone, xNil, xRetN, fDict, eT, bind_ite, fin3_rt, fin3_nx, fin3_ite, Option.bind_some, Option.bind_none, List.getElem?_cons_zero, List.getElem?_cons_succ, List.set_cons_zero, List.set_cons_succ, vAdd, vSub, vMul, vMod, vFdiv, vPow, vLt, vLe, vGt, vGe, vEq, vNe, vEqB, vIs, vIsnt, DD.isN, vIx_tup, vIx_lst, vIx_frz, gLen_tup, gLen_lst, gLen_frz, gTuple_tup, gTuple_lst, gList_tup, gList_lst, gInt_int, gInt_bl, vSl, wipeE, if_true, if_false, Bool.false_eq_true, decide_eq_true_eq, List.length_cons, List.length_nil, finB_0, cl_non, cl_bl, cl_int, cl_str, cl_tup, cl_lst, cls_nil, cls_cons, gLen_str, ev_zip, ev_enum, ev_text, ev_range2, ev_sub, ev_dput, walked_tup, walked_lst, walked_str, cutL_1, Bool.and_true, Bool.true_and, Bool.not_true, Bool.not_false, Bool.true_and]
    cases waitsN k p with
    | none => simp only [crowdV, ev_bin, ev_ix, ev_and, ev_or, ev_not, ev_neg, ev_tV, ev_tand, ev_tor, ev_tnot, ev_if, ev_chain, ev_acons, ev_tup, ev_lst, ev_new, ev_call, ev_osome, ev_sl, ev_meth, ev_kget, ev_comp, ev_compN, ev_iseq, ev_range1, ev_seq, ev_set, ev_drop, ev_ret, ev_xif, ev_for, fVar, fC, aNil, oNone, xNil, xRetN, fDict, eT, bind_ite, fin3_rt, fin3_nx, fin3_ite, Option.bind_some, Option.bind_none, List.getElem?_cons_zero, List.getElem?_cons_succ, List.set_cons_zero, List.set_cons_succ, vAdd, vSub, vMul, vMod, vFdiv, vPow, vLt, vLe, vGt, vGe, vEq, vNe, vEqB, vIs, vIsnt, DD.isN, vIx_tup, vIx_lst, vIx_frz, gLen_tup, gLen_lst, gLen_frz, gTuple_tup, gTuple_lst, gList_tup, gList_lst, gInt_int, gInt_bl, vSl, wipeE, if_true, if_false, Bool.false_eq_true, decide_eq_true_eq, List.length_cons, List.length_nil, finB_0, cl_non, cl_bl, cl_int, cl_str, cl_tup, cl_lst, cls_nil, cls_cons, gLen_str, ev_zip, ev_enum, ev_text, ev_range2, ev_sub, ev_dput, walked_tup, walked_lst, walked_str, cutL_1, Bool.and_true, Bool.true_and, Bool.not_true, Bool.not_false, Option.isNone_none]
    | some c => simp only [crowdV, ev_bin, ev_ix, ev_and, ev_or, ev_not, ev_neg, ev_tV, ev_tand, ev_tor, ev_tnot, ev_if, ev_chain, ev_acons, ev_tup, ev_lst, ev_new, ev_call, ev_osome, ev_sl, ev_meth, ev_kget, ev_comp, ev_compN, ev_iseq, ev_range1, ev_seq, ev_set, ev_drop, ev_ret, ev_xif, ev_for, fVar, fC, aNil, oNone, xNil, xRetN, fDict, eT, bind_ite, fin3_rt, fin3_nx, fin3_ite, Option.bind_some, Option.bind_none, List.getElem?_cons_zero, List.getElem?_cons_succ, List.set_cons_zero, List.set_cons_succ, vAdd, vSub, vMul, vMod, vFdiv, vPow, vLt, vLe, vGt, vGe, vEq, vNe, vEqB, vIs, vIsnt, DD.isN, vIx_tup, vIx_lst, vIx_frz, gLen_tup, gLen_lst, gLen_frz, gTuple_tup, gTuple_lst, gList_tup, gList_lst, gInt_int, gInt_bl, vSl, wipeE, if_true, if_false, Bool.false_eq_true, decide_eq_true_eq, List.length_cons, List.length_nil, finB_0, cl_non, cl_bl, cl_int, cl_str, cl_tup, cl_lst, cls_nil, cls_cons, gLen_str, ev_zip, ev_enum, ev_text, ev_range2, ev_sub, ev_dput, walked_tup, walked_lst, walked_str, cutL_1, Bool.and_true, Bool.true_and, Bool.not_true, Bool.not_false, Option.isNone_some]
theorem l_put {l : List Val} {i : Nat} {v : Val} (hl : l.length ≤ 4000) (hc : cls 0 l = true) (hv : cl 0 v = true) : g__law_put [.tup l, .int (i : Int), v] st = some (.tup (l.take i ++ [v] ++ l.drop (i + 1)), st) := by
  rw [gd__law_put]
  simp only [b__law_put, ev_bin, ev_ix, ev_and, ev_or, ev_not, ev_neg, ev_tV, ev_tand, ev_tor, ev_tnot, ev_if, ev_chain, ev_acons, ev_tup, ev_lst, ev_new, ev_call, ev_osome, ev_sl, ev_meth, ev_kget, ev_comp, ev_compN, ev_iseq, ev_range1, ev_seq, ev_set, ev_drop, ev_ret, ev_xif, ev_for, fVar, fC, aNil, oNone, xNil, xRetN, fDict, eT, bind_ite, fin3_rt, fin3_nx, fin3_ite, Option.bind_some, Option.bind_none, List.getElem?_cons_zero, List.getElem?_cons_succ, List.set_cons_zero, List.set_cons_succ, vAdd, vSub, vMul, vMod, vFdiv, vPow, vLt, vLe, vGt, vGe, vEq, vNe, vEqB, vIs, vIsnt, DD.isN, vIx_tup, vIx_lst, vIx_frz, gLen_tup, gLen_lst, gLen_frz, gTuple_tup, gTuple_lst, gList_tup, gList_lst, gInt_int, gInt_bl, vSl, wipeE, if_true, if_false, Bool.false_eq_true, decide_eq_true_eq, List.length_cons, List.length_nil, finB_0, cl_non, cl_bl, cl_int, cl_str, cl_tup, cl_lst, cls_nil, cls_cons, gLen_str, ev_zip, ev_enum, ev_text, ev_range2, ev_sub, ev_dput, walked_tup, walked_lst, walked_str, cutL_1, Bool.and_true, Bool.true_and, Bool.not_true, Bool.not_false, cutL_to, cutL_from1, Nat.reduceAdd, Nat.reduceLeDiff]
  rw [if_pos (by rw [List.length_take]; omega)]
  rw [if_pos (by rw [List.length_append, List.length_take, List.length_singleton, List.length_drop]; omega)]
  refine finB_0 ?_
  rw [cl_tup, cls_append, cls_append, cls_cons, hv, cls_nil, cls_of fun v hv => cls_mem hc (List.mem_of_mem_take hv), cls_of fun v hv => cls_mem hc (List.mem_of_mem_drop hv)]
  rfl
theorem l_putR {R : List Nat} {r x : Nat} (h : R.length = 4) (hr : r < 4) : g__law_put [.tup (nv R), .int (r : Int), .int (x : Int)] st = some (.tup (nv (R.set r x)), st) := by
  rw [l_put (by rw [nv_len]; omega) nv_cl cl_int]
  unfold nv
  rw [← map_put (by omega)]
theorem l_putS {S : List (Option (Nat × Nat))} {r : Nat} {x : Option (Nat × Nat)} (h : S.length = 3) (hr : r < 3) : g__law_put [.tup (S.map slotV), .int (r : Int), slotV x] st = some (.tup ((S.set r x).map slotV), st) := by
  rw [l_put (by rw [List.length_map]; omega) slots_cl (okD_cl slot_okD)]
  rw [← map_put (by omega)]
theorem l_sent {i : Ins} {c n : Nat} (hp : p.ok) (hi : i.ok c n) : g__law_sent [i.val, p.val] st = some (.lst ((sentOf i p).map sendV), st) := by
  have hR := hp.R
  have hS := hp.S
  rw [gd__law_sent]
  cases i with
  | send a r =>
    have hr : r < p.R.length := by have := hi.2; omega
    simp only [b__law_sent, ev_bin, ev_ix, ev_and, ev_or, ev_not, ev_neg, ev_tV, ev_tand, ev_tor, ev_tnot, ev_if, ev_chain, ev_acons, ev_tup, ev_lst, ev_new, ev_call, ev_osome, ev_sl, ev_meth, ev_kget, ev_comp, ev_compN, ev_iseq, ev_range1, ev_seq, ev_set, ev_drop, ev_ret, ev_xif, ev_for, fVar, fC, aNil, oNone, xNil, xRetN, fDict, eT, bind_ite, fin3_rt, fin3_nx, fin3_ite, Option.bind_some, Option.bind_none, List.getElem?_cons_zero, List.getElem?_cons_succ, List.set_cons_zero, List.set_cons_succ, vAdd, vSub, vMul, vMod, vFdiv, vPow, vLt, vLe, vGt, vGe, vEq, vNe, vEqB, vIs, vIsnt, DD.isN, vIx_tup, vIx_lst, vIx_frz, gLen_tup, gLen_lst, gLen_frz, gTuple_tup, gTuple_lst, gList_tup, gList_lst, gInt_int, gInt_bl, vSl, wipeE, if_true, if_false, Bool.false_eq_true, decide_eq_true_eq, List.length_cons, List.length_nil, finB_0, cl_non, cl_bl, cl_int, cl_str, cl_tup, cl_lst, cls_nil, cls_cons, gLen_str, ev_zip, ev_enum, ev_text, ev_range2, ev_sub, ev_dput, walked_tup, walked_lst, walked_str, cutL_1, Bool.and_true, Bool.true_and, Bool.not_true, Bool.not_false, PS.val, Ins.val, sV, nI, atI_zero, atI_1, atI_2, atI_nat', nv_getD hr, ofString_inj, String.reduceEq, decide_true, Nat.reduceAdd, Nat.reduceLeDiff]
    rfl
  | answer r =>
    have hr : r < p.R.length := by have : r < 4 := hi; omega
    simp only [b__law_sent, ev_bin, ev_ix, ev_and, ev_or, ev_not, ev_neg, ev_tV, ev_tand, ev_tor, ev_tnot, ev_if, ev_chain, ev_acons, ev_tup, ev_lst, ev_new, ev_call, ev_osome, ev_sl, ev_meth, ev_kget, ev_comp, ev_compN, ev_iseq, ev_range1, ev_seq, ev_set, ev_drop, ev_ret, ev_xif, ev_for, fVar, fC, aNil, oNone, xNil, xRetN, fDict, eT, bind_ite, fin3_rt, fin3_nx, fin3_ite, Option.bind_some, Option.bind_none, List.getElem?_cons_zero, List.getElem?_cons_succ, List.set_cons_zero, List.set_cons_succ, vAdd, vSub, vMul, vMod, vFdiv, vPow, vLt, vLe, vGt, vGe, vEq, vNe, vEqB, vIs, vIsnt, DD.isN, vIx_tup, vIx_lst, vIx_frz, gLen_tup, gLen_lst, gLen_frz, gTuple_tup, gTuple_lst, gList_tup, gList_lst, gInt_int, gInt_bl, vSl, wipeE, if_true, if_false, Bool.false_eq_true, decide_eq_true_eq, List.length_cons, List.length_nil, finB_0, cl_non, cl_bl, cl_int, cl_str, cl_tup, cl_lst, cls_nil, cls_cons, gLen_str, ev_zip, ev_enum, ev_text, ev_range2, ev_sub, ev_dput, walked_tup, walked_lst, walked_str, cutL_1, Bool.and_true, Bool.true_and, Bool.not_true, Bool.not_false, PS.val, Ins.val, sV, nI, atI_zero, atI_1, atI_2, atI_3, atI_nat', nv_getD hr, ofString_inj, String.reduceEq, decide_true, decide_false, Nat.reduceAdd, Nat.reduceLeDiff, sentOf]
    cases p.snd with
    | none =>
      simp only [optV, ev_bin, ev_ix, ev_and, ev_or, ev_not, ev_neg, ev_tV, ev_tand, ev_tor, ev_tnot, ev_if, ev_chain, ev_acons, ev_tup, ev_lst, ev_new, ev_call, ev_osome, ev_sl, ev_meth, ev_kget, ev_comp, ev_compN, ev_iseq, ev_range1, ev_seq, ev_set, ev_drop, ev_ret, ev_xif, ev_for, fVar, fC, aNil, oNone, xNil, xRetN, fDict, eT, bind_ite, fin3_rt, fin3_nx, fin3_ite, Option.bind_some, Option.bind_none, List.getElem?_cons_zero, List.getElem?_cons_succ, List.set_cons_zero, List.set_cons_succ, vAdd, vSub, vMul, vMod, vFdiv, vPow, vLt, vLe, vGt, vGe, vEq, vNe, vEqB, vIs, vIsnt, DD.isN, vIx_tup, vIx_lst, vIx_frz, gLen_tup, gLen_lst, gLen_frz, gTuple_tup, gTuple_lst, gList_tup, gList_lst, gInt_int, gInt_bl, vSl, wipeE, if_true, if_false, Bool.false_eq_true, decide_eq_true_eq, List.length_cons, List.length_nil, finB_0, cl_non, cl_bl, cl_int, cl_str, cl_tup, cl_lst, cls_nil, cls_cons, gLen_str, ev_zip, ev_enum, ev_text, ev_range2, ev_sub, ev_dput, walked_tup, walked_lst, walked_str, cutL_1, Bool.and_true, Bool.true_and, Bool.not_true, Bool.not_false, Nat.zero_le]
      rfl
    | some s =>
      simp only [optV, nI, ev_bin, ev_ix, ev_and, ev_or, ev_not, ev_neg, ev_tV, ev_tand, ev_tor, ev_tnot, ev_if, ev_chain, ev_acons, ev_tup, ev_lst, ev_new, ev_call, ev_osome, ev_sl, ev_meth, ev_kget, ev_comp, ev_compN, ev_iseq, ev_range1, ev_seq, ev_set, ev_drop, ev_ret, ev_xif, ev_for, fVar, fC, aNil, oNone, xNil, xRetN, fDict, eT, bind_ite, fin3_rt, fin3_nx, fin3_ite, Option.bind_some, Option.bind_none, List.getElem?_cons_zero, List.getElem?_cons_succ, List.set_cons_zero, List.set_cons_succ, vAdd, vSub, vMul, vMod, vFdiv, vPow, vLt, vLe, vGt, vGe, vEq, vNe, vEqB, vIs, vIsnt, DD.isN, vIx_tup, vIx_lst, vIx_frz, gLen_tup, gLen_lst, gLen_frz, gTuple_tup, gTuple_lst, gList_tup, gList_lst, gInt_int, gInt_bl, vSl, wipeE, if_true, if_false, Bool.false_eq_true, decide_eq_true_eq, List.length_cons, List.length_nil, finB_0, cl_non, cl_bl, cl_int, cl_str, cl_tup, cl_lst, cls_nil, cls_cons, gLen_str, ev_zip, ev_enum, ev_text, ev_range2, ev_sub, ev_dput, walked_tup, walked_lst, walked_str, cutL_1, Bool.and_true, Bool.true_and, Bool.not_true, Bool.not_false, Nat.reduceAdd, Nat.reduceLeDiff]
      rfl
  | give a s =>
    have hs : s < p.S.length := by have := hi.2; omega
    have e : (p.S.map slotV)[s]? = some (slotV (p.S.getD s none)) := by
      rw [List.getElem?_map, List.getElem?_eq_getElem hs, List.getD_eq_getElem?_getD, List.getElem?_eq_getElem hs]
      rfl
    simp only [b__law_sent, ev_bin, ev_ix, ev_and, ev_or, ev_not, ev_neg, ev_tV, ev_tand, ev_tor, ev_tnot, ev_if, ev_chain, ev_acons, ev_tup, ev_lst, ev_new, ev_call, ev_osome, ev_sl, ev_meth, ev_kget, ev_comp, ev_compN, ev_iseq, ev_range1, ev_seq, ev_set, ev_drop, ev_ret, ev_xif, ev_for, fVar, fC, aNil, oNone, xNil, xRetN, fDict, eT, bind_ite, fin3_rt, fin3_nx, fin3_ite, Option.bind_some, Option.bind_none, List.getElem?_cons_zero, List.getElem?_cons_succ, List.set_cons_zero, List.set_cons_succ, vAdd, vSub, vMul, vMod, vFdiv, vPow, vLt, vLe, vGt, vGe, vEq, vNe, vEqB, vIs, vIsnt, DD.isN, vIx_tup, vIx_lst, vIx_frz, gLen_tup, gLen_lst, gLen_frz, gTuple_tup, gTuple_lst, gList_tup, gList_lst, gInt_int, gInt_bl, vSl, wipeE, if_true, if_false, Bool.false_eq_true, decide_eq_true_eq, List.length_cons, List.length_nil, finB_0, cl_non, cl_bl, cl_int, cl_str, cl_tup, cl_lst, cls_nil, cls_cons, gLen_str, ev_zip, ev_enum, ev_text, ev_range2, ev_sub, ev_dput, walked_tup, walked_lst, walked_str, cutL_1, Bool.and_true, Bool.true_and, Bool.not_true, Bool.not_false, PS.val, Ins.val, sV, nI, atI_zero, atI_1, atI_2, atI_3, atI_nat', e, ofString_inj, String.reduceEq, decide_true, decide_false, Nat.reduceAdd, Nat.reduceLeDiff, sentOf]
    cases p.S.getD s none with
    | none =>
      simp only [slotV, ev_bin, ev_ix, ev_and, ev_or, ev_not, ev_neg, ev_tV, ev_tand, ev_tor, ev_tnot, ev_if, ev_chain, ev_acons, ev_tup, ev_lst, ev_new, ev_call, ev_osome, ev_sl, ev_meth, ev_kget, ev_comp, ev_compN, ev_iseq, ev_range1, ev_seq, ev_set, ev_drop, ev_ret, ev_xif, ev_for, fVar, fC, aNil, oNone, xNil, xRetN, fDict, eT, bind_ite, fin3_rt, fin3_nx, fin3_ite, Option.bind_some, Option.bind_none, List.getElem?_cons_zero, List.getElem?_cons_succ, List.set_cons_zero, List.set_cons_succ, vAdd, vSub, vMul, vMod, vFdiv, vPow, vLt, vLe, vGt, vGe, vEq, vNe, vEqB, vIs, vIsnt, DD.isN, vIx_tup, vIx_lst, vIx_frz, gLen_tup, gLen_lst, gLen_frz, gTuple_tup, gTuple_lst, gList_tup, gList_lst, gInt_int, gInt_bl, vSl, wipeE, if_true, if_false, Bool.false_eq_true, decide_eq_true_eq, List.length_cons, List.length_nil, finB_0, cl_non, cl_bl, cl_int, cl_str, cl_tup, cl_lst, cls_nil, cls_cons, gLen_str, ev_zip, ev_enum, ev_text, ev_range2, ev_sub, ev_dput, walked_tup, walked_lst, walked_str, cutL_1, Bool.and_true, Bool.true_and, Bool.not_true, Bool.not_false, Nat.zero_le]
      rfl
    | some x =>
      obtain ⟨x, y⟩ := x
      simp only [slotV, nI, ev_bin, ev_ix, ev_and, ev_or, ev_not, ev_neg, ev_tV, ev_tand, ev_tor, ev_tnot, ev_if, ev_chain, ev_acons, ev_tup, ev_lst, ev_new, ev_call, ev_osome, ev_sl, ev_meth, ev_kget, ev_comp, ev_compN, ev_iseq, ev_range1, ev_seq, ev_set, ev_drop, ev_ret, ev_xif, ev_for, fVar, fC, aNil, oNone, xNil, xRetN, fDict, eT, bind_ite, fin3_rt, fin3_nx, fin3_ite, Option.bind_some, Option.bind_none, List.getElem?_cons_zero, List.getElem?_cons_succ, List.set_cons_zero, List.set_cons_succ, vAdd, vSub, vMul, vMod, vFdiv, vPow, vLt, vLe, vGt, vGe, vEq, vNe, vEqB, vIs, vIsnt, DD.isN, vIx_tup, vIx_lst, vIx_frz, gLen_tup, gLen_lst, gLen_frz, gTuple_tup, gTuple_lst, gList_tup, gList_lst, gInt_int, gInt_bl, vSl, wipeE, if_true, if_false, Bool.false_eq_true, decide_eq_true_eq, List.length_cons, List.length_nil, finB_0, cl_non, cl_bl, cl_int, cl_str, cl_tup, cl_lst, cls_nil, cls_cons, gLen_str, ev_zip, ev_enum, ev_text, ev_range2, ev_sub, ev_dput, walked_tup, walked_lst, walked_str, cutL_1, Bool.and_true, Bool.true_and, Bool.not_true, Bool.not_false, Nat.reduceAdd, Nat.reduceLeDiff, atI_zero, atI_1]
      rfl
  | _ =>
    simp only [b__law_sent, ev_bin, ev_ix, ev_and, ev_or, ev_not, ev_neg, ev_tV, ev_tand, ev_tor, ev_tnot, ev_if, ev_chain, ev_acons, ev_tup, ev_lst, ev_new, ev_call, ev_osome, ev_sl, ev_meth, ev_kget, ev_comp, ev_compN, ev_iseq, ev_range1, ev_seq, ev_set, ev_drop, ev_ret, ev_xif, ev_for, fVar, fC, aNil, oNone, xNil, xRetN, fDict, eT, bind_ite, fin3_rt, fin3_nx, fin3_ite, Option.bind_some, Option.bind_none, List.getElem?_cons_zero, List.getElem?_cons_succ, List.set_cons_zero, List.set_cons_succ, vAdd, vSub, vMul, vMod, vFdiv, vPow, vLt, vLe, vGt, vGe, vEq, vNe, vEqB, vIs, vIsnt, DD.isN, vIx_tup, vIx_lst, vIx_frz, gLen_tup, gLen_lst, gLen_frz, gTuple_tup, gTuple_lst, gList_tup, gList_lst, gInt_int, gInt_bl, vSl, wipeE, if_true, if_false, Bool.false_eq_true, decide_eq_true_eq, List.length_cons, List.length_nil, finB_0, cl_non, cl_bl, cl_int, cl_str, cl_tup, cl_lst, cls_nil, cls_cons, gLen_str, ev_zip, ev_enum, ev_text, ev_range2, ev_sub, ev_dput, walked_tup, walked_lst, walked_str, cutL_1, Bool.and_true, Bool.true_and, Bool.not_true, Bool.not_false, PS.val, Ins.val, sV, nI, atI_zero, ofString_inj, String.reduceEq, decide_false, Nat.zero_le]
    rfl
theorem lact_cl {q : PS} {l : List (Nat × Pay)} {m : Nat} : cl m (.lst [q.val, .lst (l.map sendV)]) = true := by
  rw [cl_lst, cls_cons, cls_cons, cls_nil, okD_cl PS.okD, sends_cl]; rfl
theorem l_act {i : Ins} {c n : Nat} (hp : p.ok) (hn : nextI k p = some i) (hc : canN k p = true) (hi : i.ok c n) : g__law_act [codeV k, .int (n : Int), p.val] st = some (.lst [(stepOf n i p).val, .lst ((sentOf i p).map sendV)], st) := by
  have hk := next_get hn
  have e := l_sent (st := st) hp hi
  have hR := hp.R
  have hb := hp.box
  have fin : ∀ q : PS, finB st st (.lst [q.val, .lst ((sentOf i p).map sendV)]) = some (.lst [q.val, .lst ((sentOf i p).map sendV)], st) := fun q => finB_0 lact_cl
  simp only [PS.val, nI] at e
  rw [gd__law_act]
  simp only [b__law_act, ev_bin, ev_ix, ev_and, ev_or, ev_not, ev_neg, ev_tV, ev_tand, ev_tor, ev_tnot, ev_if, ev_chain, ev_acons, ev_tup, ev_lst, ev_new, ev_call, ev_osome, ev_sl, ev_meth, ev_kget, ev_comp, ev_compN, ev_iseq, ev_range1, ev_seq, ev_set, ev_drop, ev_ret, ev_xif, ev_for, fVar, fC, aNil, oNone, xNil, xRetN, fDict, eT, bind_ite, fin3_rt, fin3_nx, fin3_ite, Option.bind_some, Option.bind_none, List.getElem?_cons_zero, List.getElem?_cons_succ, List.set_cons_zero, List.set_cons_succ, vAdd, vSub, vMul, vMod, vFdiv, vPow, vLt, vLe, vGt, vGe, vEq, vNe, vEqB, vIs, vIsnt, DD.isN, vIx_tup, vIx_lst, vIx_frz, gLen_tup, gLen_lst, gLen_frz, gTuple_tup, gTuple_lst, gList_tup, gList_lst, gInt_int, gInt_bl, vSl, wipeE, if_true, if_false, Bool.false_eq_true, decide_eq_true_eq, List.length_cons, List.length_nil, finB_0, cl_non, cl_bl, cl_int, cl_str, cl_tup, cl_lst, cls_nil, cls_cons, gLen_str, ev_zip, ev_enum, ev_text, ev_range2, ev_sub, ev_dput, walked_tup, walked_lst, walked_str, cutL_1, Bool.and_true, Bool.true_and, Bool.not_true, Bool.not_false, eT, sets, PS.val, codeV, nI, atI_nat', List.getElem?_map, hk, Option.map_some]
  simp only [PS.val, nI, cast_1] at fin
  cases i with
  | set r v =>
    simp only [Ins.val, sV, nI] at e
    simp only [Ins.val, sV, nI, e, ev_bin, ev_ix, ev_and, ev_or, ev_not, ev_neg, ev_tV, ev_tand, ev_tor, ev_tnot, ev_if, ev_chain, ev_acons, ev_tup, ev_lst, ev_new, ev_call, ev_osome, ev_sl, ev_meth, ev_kget, ev_comp, ev_compN, ev_iseq, ev_range1, ev_seq, ev_set, ev_drop, ev_ret, ev_xif, ev_for, fVar, fC, aNil, oNone, xNil, xRetN, fDict, eT, bind_ite, fin3_rt, fin3_nx, fin3_ite, Option.bind_some, Option.bind_none, List.getElem?_cons_zero, List.getElem?_cons_succ, List.set_cons_zero, List.set_cons_succ, vAdd, vSub, vMul, vMod, vFdiv, vPow, vLt, vLe, vGt, vGe, vEq, vNe, vEqB, vIs, vIsnt, DD.isN, vIx_tup, vIx_lst, vIx_frz, gLen_tup, gLen_lst, gLen_frz, gTuple_tup, gTuple_lst, gList_tup, gList_lst, gInt_int, gInt_bl, vSl, wipeE, if_true, if_false, Bool.false_eq_true, decide_eq_true_eq, List.length_cons, List.length_nil, finB_0, cl_non, cl_bl, cl_int, cl_str, cl_tup, cl_lst, cls_nil, cls_cons, gLen_str, ev_zip, ev_enum, ev_text, ev_range2, ev_sub, ev_dput, walked_tup, walked_lst, walked_str, cutL_1, Bool.and_true, Bool.true_and, Bool.not_true, Bool.not_false, atI_zero, atI_1, atI_2, ofString_inj, String.reduceEq, decide_true, decide_false, l_putR hp.R (show r < 4 from hi.1), Nat.reduceAdd, Nat.reduceLeDiff, eT, sets, stepOf, cast_1]
    exact fin (stepOf n (.set r v) p)
  | add r q =>
    simp only [Ins.val, sV, nI] at e
    have hr : r < p.R.length := by have := hi.1; omega
    have hq : q < p.R.length := by have := hi.2; omega
    simp only [Ins.val, sV, nI, e, ev_bin, ev_ix, ev_and, ev_or, ev_not, ev_neg, ev_tV, ev_tand, ev_tor, ev_tnot, ev_if, ev_chain, ev_acons, ev_tup, ev_lst, ev_new, ev_call, ev_osome, ev_sl, ev_meth, ev_kget, ev_comp, ev_compN, ev_iseq, ev_range1, ev_seq, ev_set, ev_drop, ev_ret, ev_xif, ev_for, fVar, fC, aNil, oNone, xNil, xRetN, fDict, eT, bind_ite, fin3_rt, fin3_nx, fin3_ite, Option.bind_some, Option.bind_none, List.getElem?_cons_zero, List.getElem?_cons_succ, List.set_cons_zero, List.set_cons_succ, vAdd, vSub, vMul, vMod, vFdiv, vPow, vLt, vLe, vGt, vGe, vEq, vNe, vEqB, vIs, vIsnt, DD.isN, vIx_tup, vIx_lst, vIx_frz, gLen_tup, gLen_lst, gLen_frz, gTuple_tup, gTuple_lst, gList_tup, gList_lst, gInt_int, gInt_bl, vSl, wipeE, if_true, if_false, Bool.false_eq_true, decide_eq_true_eq, List.length_cons, List.length_nil, finB_0, cl_non, cl_bl, cl_int, cl_str, cl_tup, cl_lst, cls_nil, cls_cons, gLen_str, ev_zip, ev_enum, ev_text, ev_range2, ev_sub, ev_dput, walked_tup, walked_lst, walked_str, cutL_1, Bool.and_true, Bool.true_and, Bool.not_true, Bool.not_false, atI_zero, atI_1, atI_2, atI_nat', nv_getD hr, nv_getD hq, ofString_inj, String.reduceEq, decide_true, decide_false, Int.reduceLT, ← cast_mod, l_putR hp.R (show r < 4 from hi.1), Nat.reduceAdd, Nat.reduceLeDiff, eT, sets, stepOf, cast_1]
    exact fin (stepOf n (.add r q) p)
  | test r q =>
    simp only [Ins.val, sV, nI] at e
    have hr : r < p.R.length := by have := hi.1; omega
    simp only [Ins.val, sV, nI, e, ev_bin, ev_ix, ev_and, ev_or, ev_not, ev_neg, ev_tV, ev_tand, ev_tor, ev_tnot, ev_if, ev_chain, ev_acons, ev_tup, ev_lst, ev_new, ev_call, ev_osome, ev_sl, ev_meth, ev_kget, ev_comp, ev_compN, ev_iseq, ev_range1, ev_seq, ev_set, ev_drop, ev_ret, ev_xif, ev_for, fVar, fC, aNil, oNone, xNil, xRetN, fDict, eT, bind_ite, fin3_rt, fin3_nx, fin3_ite, Option.bind_some, Option.bind_none, List.getElem?_cons_zero, List.getElem?_cons_succ, List.set_cons_zero, List.set_cons_succ, vAdd, vSub, vMul, vMod, vFdiv, vPow, vLt, vLe, vGt, vGe, vEq, vNe, vEqB, vIs, vIsnt, DD.isN, vIx_tup, vIx_lst, vIx_frz, gLen_tup, gLen_lst, gLen_frz, gTuple_tup, gTuple_lst, gList_tup, gList_lst, gInt_int, gInt_bl, vSl, wipeE, if_true, if_false, Bool.false_eq_true, decide_eq_true_eq, List.length_cons, List.length_nil, finB_0, cl_non, cl_bl, cl_int, cl_str, cl_tup, cl_lst, cls_nil, cls_cons, gLen_str, ev_zip, ev_enum, ev_text, ev_range2, ev_sub, ev_dput, walked_tup, walked_lst, walked_str, cutL_1, Bool.and_true, Bool.true_and, Bool.not_true, Bool.not_false, atI_zero, atI_1, atI_2, atI_nat', nv_getD hr, ofString_inj, String.reduceEq, decide_true, decide_false, getD_zero, Nat.reduceAdd, Nat.reduceLeDiff, eT, sets, stepOf, cast_1]
    by_cases h0 : p.R.getD r 0 = 0
    · have := fin (stepOf n (.test r q) p)
      simp only [stepOf, h0, if_true] at this
      simp only [h0, if_true, ev_bin, ev_ix, ev_and, ev_or, ev_not, ev_neg, ev_tV, ev_tand, ev_tor, ev_tnot, ev_if, ev_chain, ev_acons, ev_tup, ev_lst, ev_new, ev_call, ev_osome, ev_sl, ev_meth, ev_kget, ev_comp, ev_compN, ev_iseq, ev_range1, ev_seq, ev_set, ev_drop, ev_ret, ev_xif, ev_for, fVar, fC, aNil, oNone, xNil, xRetN, fDict, eT, bind_ite, fin3_rt, fin3_nx, fin3_ite, Option.bind_some, Option.bind_none, List.getElem?_cons_zero, List.getElem?_cons_succ, List.set_cons_zero, List.set_cons_succ, vAdd, vSub, vMul, vMod, vFdiv, vPow, vLt, vLe, vGt, vGe, vEq, vNe, vEqB, vIs, vIsnt, DD.isN, vIx_tup, vIx_lst, vIx_frz, gLen_tup, gLen_lst, gLen_frz, gTuple_tup, gTuple_lst, gList_tup, gList_lst, gInt_int, gInt_bl, vSl, wipeE, if_true, if_false, Bool.false_eq_true, decide_eq_true_eq, List.length_cons, List.length_nil, finB_0, cl_non, cl_bl, cl_int, cl_str, cl_tup, cl_lst, cls_nil, cls_cons, gLen_str, ev_zip, ev_enum, ev_text, ev_range2, ev_sub, ev_dput, walked_tup, walked_lst, walked_str, cutL_1, Bool.and_true, Bool.true_and, Bool.not_true, Bool.not_false, atI_2, Nat.reduceAdd, Nat.reduceLeDiff, ofString_inj, String.reduceEq, decide_true, decide_false]
      exact this
    · have := fin (stepOf n (.test r q) p)
      simp only [stepOf, h0, if_false, cast_1] at this
      simp only [h0, if_false, ev_bin, ev_ix, ev_and, ev_or, ev_not, ev_neg, ev_tV, ev_tand, ev_tor, ev_tnot, ev_if, ev_chain, ev_acons, ev_tup, ev_lst, ev_new, ev_call, ev_osome, ev_sl, ev_meth, ev_kget, ev_comp, ev_compN, ev_iseq, ev_range1, ev_seq, ev_set, ev_drop, ev_ret, ev_xif, ev_for, fVar, fC, aNil, oNone, xNil, xRetN, fDict, eT, bind_ite, fin3_rt, fin3_nx, fin3_ite, Option.bind_some, Option.bind_none, List.getElem?_cons_zero, List.getElem?_cons_succ, List.set_cons_zero, List.set_cons_succ, vAdd, vSub, vMul, vMod, vFdiv, vPow, vLt, vLe, vGt, vGe, vEq, vNe, vEqB, vIs, vIsnt, DD.isN, vIx_tup, vIx_lst, vIx_frz, gLen_tup, gLen_lst, gLen_frz, gTuple_tup, gTuple_lst, gList_tup, gList_lst, gInt_int, gInt_bl, vSl, wipeE, if_true, if_false, Bool.false_eq_true, decide_eq_true_eq, List.length_cons, List.length_nil, finB_0, cl_non, cl_bl, cl_int, cl_str, cl_tup, cl_lst, cls_nil, cls_cons, gLen_str, ev_zip, ev_enum, ev_text, ev_range2, ev_sub, ev_dput, walked_tup, walked_lst, walked_str, cutL_1, Bool.and_true, Bool.true_and, Bool.not_true, Bool.not_false, Nat.reduceAdd, Nat.reduceLeDiff, ofString_inj, String.reduceEq, decide_true, decide_false, cast_1]
      exact this
  | new s =>
    simp only [Ins.val, sV, nI] at e
    have e2 := l_putS (st := st) (x := some (n, p.made)) hp.S (show s < 3 from hi)
    simp only [slotV, nI] at e2
    simp only [Ins.val, sV, nI, e, ev_bin, ev_ix, ev_and, ev_or, ev_not, ev_neg, ev_tV, ev_tand, ev_tor, ev_tnot, ev_if, ev_chain, ev_acons, ev_tup, ev_lst, ev_new, ev_call, ev_osome, ev_sl, ev_meth, ev_kget, ev_comp, ev_compN, ev_iseq, ev_range1, ev_seq, ev_set, ev_drop, ev_ret, ev_xif, ev_for, fVar, fC, aNil, oNone, xNil, xRetN, fDict, eT, bind_ite, fin3_rt, fin3_nx, fin3_ite, Option.bind_some, Option.bind_none, List.getElem?_cons_zero, List.getElem?_cons_succ, List.set_cons_zero, List.set_cons_succ, vAdd, vSub, vMul, vMod, vFdiv, vPow, vLt, vLe, vGt, vGe, vEq, vNe, vEqB, vIs, vIsnt, DD.isN, vIx_tup, vIx_lst, vIx_frz, gLen_tup, gLen_lst, gLen_frz, gTuple_tup, gTuple_lst, gList_tup, gList_lst, gInt_int, gInt_bl, vSl, wipeE, if_true, if_false, Bool.false_eq_true, decide_eq_true_eq, List.length_cons, List.length_nil, finB_0, cl_non, cl_bl, cl_int, cl_str, cl_tup, cl_lst, cls_nil, cls_cons, gLen_str, ev_zip, ev_enum, ev_text, ev_range2, ev_sub, ev_dput, walked_tup, walked_lst, walked_str, cutL_1, Bool.and_true, Bool.true_and, Bool.not_true, Bool.not_false, atI_zero, atI_1, atI_2, ofString_inj, String.reduceEq, decide_true, decide_false, Nat.reduceAdd, Nat.reduceLeDiff, e2, eT, sets, stepOf, cast_1]
    exact fin (stepOf n (.new s) p)
  | drop s =>
    simp only [Ins.val, sV, nI] at e
    have e2 := l_putS (st := st) (x := none) hp.S (show s < 3 from hi)
    simp only [slotV] at e2
    simp only [Ins.val, sV, nI, e, ev_bin, ev_ix, ev_and, ev_or, ev_not, ev_neg, ev_tV, ev_tand, ev_tor, ev_tnot, ev_if, ev_chain, ev_acons, ev_tup, ev_lst, ev_new, ev_call, ev_osome, ev_sl, ev_meth, ev_kget, ev_comp, ev_compN, ev_iseq, ev_range1, ev_seq, ev_set, ev_drop, ev_ret, ev_xif, ev_for, fVar, fC, aNil, oNone, xNil, xRetN, fDict, eT, bind_ite, fin3_rt, fin3_nx, fin3_ite, Option.bind_some, Option.bind_none, List.getElem?_cons_zero, List.getElem?_cons_succ, List.set_cons_zero, List.set_cons_succ, vAdd, vSub, vMul, vMod, vFdiv, vPow, vLt, vLe, vGt, vGe, vEq, vNe, vEqB, vIs, vIsnt, DD.isN, vIx_tup, vIx_lst, vIx_frz, gLen_tup, gLen_lst, gLen_frz, gTuple_tup, gTuple_lst, gList_tup, gList_lst, gInt_int, gInt_bl, vSl, wipeE, if_true, if_false, Bool.false_eq_true, decide_eq_true_eq, List.length_cons, List.length_nil, finB_0, cl_non, cl_bl, cl_int, cl_str, cl_tup, cl_lst, cls_nil, cls_cons, gLen_str, ev_zip, ev_enum, ev_text, ev_range2, ev_sub, ev_dput, walked_tup, walked_lst, walked_str, cutL_1, Bool.and_true, Bool.true_and, Bool.not_true, Bool.not_false, atI_zero, atI_1, atI_2, ofString_inj, String.reduceEq, decide_true, decide_false, Nat.reduceAdd, Nat.reduceLeDiff, e2, eT, sets, stepOf, cast_1]
    exact fin (stepOf n (.drop s) p)
  | get r cr =>
    simp only [Ins.val, sV, nI] at e
    obtain ⟨j, s, y, f1, f2⟩ := can_first hc hn rfl
    have hfin := fin (stepOf n (.get r cr) p)
    simp only [stepOf, f1, f2, optV, nI, cast_1] at hfin
    have hle : (List.take j (p.box.map itemV)).length + (List.drop (j + 1) (p.box.map itemV)).length ≤ 4096 := by rw [List.length_take, List.length_drop, List.length_map]; omega
    simp only [Ins.val, sV, nI, e, ev_bin, ev_ix, ev_and, ev_or, ev_not, ev_neg, ev_tV, ev_tand, ev_tor, ev_tnot, ev_if, ev_chain, ev_acons, ev_tup, ev_lst, ev_new, ev_call, ev_osome, ev_sl, ev_meth, ev_kget, ev_comp, ev_compN, ev_iseq, ev_range1, ev_seq, ev_set, ev_drop, ev_ret, ev_xif, ev_for, fVar, fC, aNil, oNone, xNil, xRetN, fDict, eT, bind_ite, fin3_rt, fin3_nx, fin3_ite, Option.bind_some, Option.bind_none, List.getElem?_cons_zero, List.getElem?_cons_succ, List.set_cons_zero, List.set_cons_succ, vAdd, vSub, vMul, vMod, vFdiv, vPow, vLt, vLe, vGt, vGe, vEq, vNe, vEqB, vIs, vIsnt, DD.isN, vIx_tup, vIx_lst, vIx_frz, gLen_tup, gLen_lst, gLen_frz, gTuple_tup, gTuple_lst, gList_tup, gList_lst, gInt_int, gInt_bl, vSl, wipeE, if_true, if_false, Bool.false_eq_true, decide_eq_true_eq, List.length_cons, List.length_nil, finB_0, cl_non, cl_bl, cl_int, cl_str, cl_tup, cl_lst, cls_nil, cls_cons, gLen_str, ev_zip, ev_enum, ev_text, ev_range2, ev_sub, ev_dput, walked_tup, walked_lst, walked_str, cutL_1, Bool.and_true, Bool.true_and, Bool.not_true, Bool.not_false, atI_zero, atI_1, atI_2, ofString_inj, String.reduceEq, decide_true, decide_false, Nat.reduceAdd, Nat.reduceLeDiff, l_first_of (box := p.box) (c := cr) (by omega), f1, show ∀ j : Nat, optV (some j) = .int (j : Int) from fun _ => rfl, atI_nat', List.getElem?_map, f2, Option.map_some, itemV, eT, sets, cutL_to, cutL_from1, hle, map_rem, stepOf, cast_1]
    cases y with
    | num v =>
      simp only [Pay.val, sV, nI, ev_bin, ev_ix, ev_and, ev_or, ev_not, ev_neg, ev_tV, ev_tand, ev_tor, ev_tnot, ev_if, ev_chain, ev_acons, ev_tup, ev_lst, ev_new, ev_call, ev_osome, ev_sl, ev_meth, ev_kget, ev_comp, ev_compN, ev_iseq, ev_range1, ev_seq, ev_set, ev_drop, ev_ret, ev_xif, ev_for, fVar, fC, aNil, oNone, xNil, xRetN, fDict, eT, bind_ite, fin3_rt, fin3_nx, fin3_ite, Option.bind_some, Option.bind_none, List.getElem?_cons_zero, List.getElem?_cons_succ, List.set_cons_zero, List.set_cons_succ, vAdd, vSub, vMul, vMod, vFdiv, vPow, vLt, vLe, vGt, vGe, vEq, vNe, vEqB, vIs, vIsnt, DD.isN, vIx_tup, vIx_lst, vIx_frz, gLen_tup, gLen_lst, gLen_frz, gTuple_tup, gTuple_lst, gList_tup, gList_lst, gInt_int, gInt_bl, vSl, wipeE, if_true, if_false, Bool.false_eq_true, decide_eq_true_eq, List.length_cons, List.length_nil, finB_0, cl_non, cl_bl, cl_int, cl_str, cl_tup, cl_lst, cls_nil, cls_cons, gLen_str, ev_zip, ev_enum, ev_text, ev_range2, ev_sub, ev_dput, walked_tup, walked_lst, walked_str, cutL_1, Bool.and_true, Bool.true_and, Bool.not_true, Bool.not_false, atI_zero, atI_1, ofString_inj, String.reduceEq, decide_true, decide_false, l_putR hp.R (show r < 4 from hi.1), Nat.reduceAdd, Nat.reduceLeDiff, payN, nI]
      exact hfin
    | obj a b =>
      have e0 := l_putR (st := st) (x := 0) hp.R (show r < 4 from hi.1)
      simp only [Int.natCast_zero, Int.ofNat_zero, Int.cast_ofNat_Int, Int.ofNat_eq_natCast] at e0
      simp only [Pay.val, sV, nI, ev_bin, ev_ix, ev_and, ev_or, ev_not, ev_neg, ev_tV, ev_tand, ev_tor, ev_tnot, ev_if, ev_chain, ev_acons, ev_tup, ev_lst, ev_new, ev_call, ev_osome, ev_sl, ev_meth, ev_kget, ev_comp, ev_compN, ev_iseq, ev_range1, ev_seq, ev_set, ev_drop, ev_ret, ev_xif, ev_for, fVar, fC, aNil, oNone, xNil, xRetN, fDict, eT, bind_ite, fin3_rt, fin3_nx, fin3_ite, Option.bind_some, Option.bind_none, List.getElem?_cons_zero, List.getElem?_cons_succ, List.set_cons_zero, List.set_cons_succ, vAdd, vSub, vMul, vMod, vFdiv, vPow, vLt, vLe, vGt, vGe, vEq, vNe, vEqB, vIs, vIsnt, DD.isN, vIx_tup, vIx_lst, vIx_frz, gLen_tup, gLen_lst, gLen_frz, gTuple_tup, gTuple_lst, gList_tup, gList_lst, gInt_int, gInt_bl, vSl, wipeE, if_true, if_false, Bool.false_eq_true, decide_eq_true_eq, List.length_cons, List.length_nil, finB_0, cl_non, cl_bl, cl_int, cl_str, cl_tup, cl_lst, cls_nil, cls_cons, gLen_str, ev_zip, ev_enum, ev_text, ev_range2, ev_sub, ev_dput, walked_tup, walked_lst, walked_str, cutL_1, Bool.and_true, Bool.true_and, Bool.not_true, Bool.not_false, atI_zero, atI_1, ofString_inj, String.reduceEq, decide_true, decide_false, e0, Nat.reduceAdd, Nat.reduceLeDiff, payN, nI]
      exact hfin
  | hold r cr =>
    simp only [Ins.val, sV, nI] at e
    obtain ⟨j, s, y, f1, f2⟩ := can_first hc hn rfl
    have hfin := fin (stepOf n (.hold r cr) p)
    simp only [stepOf, f1, f2, optV, nI, cast_1] at hfin
    have hle : (List.take j (p.box.map itemV)).length + (List.drop (j + 1) (p.box.map itemV)).length ≤ 4096 := by rw [List.length_take, List.length_drop, List.length_map]; omega
    simp only [Ins.val, sV, nI, e, ev_bin, ev_ix, ev_and, ev_or, ev_not, ev_neg, ev_tV, ev_tand, ev_tor, ev_tnot, ev_if, ev_chain, ev_acons, ev_tup, ev_lst, ev_new, ev_call, ev_osome, ev_sl, ev_meth, ev_kget, ev_comp, ev_compN, ev_iseq, ev_range1, ev_seq, ev_set, ev_drop, ev_ret, ev_xif, ev_for, fVar, fC, aNil, oNone, xNil, xRetN, fDict, eT, bind_ite, fin3_rt, fin3_nx, fin3_ite, Option.bind_some, Option.bind_none, List.getElem?_cons_zero, List.getElem?_cons_succ, List.set_cons_zero, List.set_cons_succ, vAdd, vSub, vMul, vMod, vFdiv, vPow, vLt, vLe, vGt, vGe, vEq, vNe, vEqB, vIs, vIsnt, DD.isN, vIx_tup, vIx_lst, vIx_frz, gLen_tup, gLen_lst, gLen_frz, gTuple_tup, gTuple_lst, gList_tup, gList_lst, gInt_int, gInt_bl, vSl, wipeE, if_true, if_false, Bool.false_eq_true, decide_eq_true_eq, List.length_cons, List.length_nil, finB_0, cl_non, cl_bl, cl_int, cl_str, cl_tup, cl_lst, cls_nil, cls_cons, gLen_str, ev_zip, ev_enum, ev_text, ev_range2, ev_sub, ev_dput, walked_tup, walked_lst, walked_str, cutL_1, Bool.and_true, Bool.true_and, Bool.not_true, Bool.not_false, atI_zero, atI_1, atI_2, ofString_inj, String.reduceEq, decide_true, decide_false, Nat.reduceAdd, Nat.reduceLeDiff, l_first_of (box := p.box) (c := cr) (by omega), f1, show ∀ j : Nat, optV (some j) = .int (j : Int) from fun _ => rfl, atI_nat', List.getElem?_map, f2, Option.map_some, itemV, eT, sets, cutL_to, cutL_from1, hle, map_rem, stepOf, cast_1]
    cases y with
    | num v =>
      have e0 := l_putS (st := st) (x := none) hp.S (show r < 3 from hi.1)
      simp only [slotV] at e0
      simp only [Pay.val, sV, nI, ev_bin, ev_ix, ev_and, ev_or, ev_not, ev_neg, ev_tV, ev_tand, ev_tor, ev_tnot, ev_if, ev_chain, ev_acons, ev_tup, ev_lst, ev_new, ev_call, ev_osome, ev_sl, ev_meth, ev_kget, ev_comp, ev_compN, ev_iseq, ev_range1, ev_seq, ev_set, ev_drop, ev_ret, ev_xif, ev_for, fVar, fC, aNil, oNone, xNil, xRetN, fDict, eT, bind_ite, fin3_rt, fin3_nx, fin3_ite, Option.bind_some, Option.bind_none, List.getElem?_cons_zero, List.getElem?_cons_succ, List.set_cons_zero, List.set_cons_succ, vAdd, vSub, vMul, vMod, vFdiv, vPow, vLt, vLe, vGt, vGe, vEq, vNe, vEqB, vIs, vIsnt, DD.isN, vIx_tup, vIx_lst, vIx_frz, gLen_tup, gLen_lst, gLen_frz, gTuple_tup, gTuple_lst, gList_tup, gList_lst, gInt_int, gInt_bl, vSl, wipeE, if_true, if_false, Bool.false_eq_true, decide_eq_true_eq, List.length_cons, List.length_nil, finB_0, cl_non, cl_bl, cl_int, cl_str, cl_tup, cl_lst, cls_nil, cls_cons, gLen_str, ev_zip, ev_enum, ev_text, ev_range2, ev_sub, ev_dput, walked_tup, walked_lst, walked_str, cutL_1, Bool.and_true, Bool.true_and, Bool.not_true, Bool.not_false, atI_zero, atI_1, ofString_inj, String.reduceEq, decide_true, decide_false, e0, Nat.reduceAdd, Nat.reduceLeDiff, payO, nI]
      exact hfin
    | obj a b =>
      have e0 := l_putS (st := st) (x := some (a, b)) hp.S (show r < 3 from hi.1)
      simp only [slotV, nI] at e0
      simp only [Pay.val, sV, nI, ev_bin, ev_ix, ev_and, ev_or, ev_not, ev_neg, ev_tV, ev_tand, ev_tor, ev_tnot, ev_if, ev_chain, ev_acons, ev_tup, ev_lst, ev_new, ev_call, ev_osome, ev_sl, ev_meth, ev_kget, ev_comp, ev_compN, ev_iseq, ev_range1, ev_seq, ev_set, ev_drop, ev_ret, ev_xif, ev_for, fVar, fC, aNil, oNone, xNil, xRetN, fDict, eT, bind_ite, fin3_rt, fin3_nx, fin3_ite, Option.bind_some, Option.bind_none, List.getElem?_cons_zero, List.getElem?_cons_succ, List.set_cons_zero, List.set_cons_succ, vAdd, vSub, vMul, vMod, vFdiv, vPow, vLt, vLe, vGt, vGe, vEq, vNe, vEqB, vIs, vIsnt, DD.isN, vIx_tup, vIx_lst, vIx_frz, gLen_tup, gLen_lst, gLen_frz, gTuple_tup, gTuple_lst, gList_tup, gList_lst, gInt_int, gInt_bl, vSl, wipeE, if_true, if_false, Bool.false_eq_true, decide_eq_true_eq, List.length_cons, List.length_nil, finB_0, cl_non, cl_bl, cl_int, cl_str, cl_tup, cl_lst, cls_nil, cls_cons, gLen_str, ev_zip, ev_enum, ev_text, ev_range2, ev_sub, ev_dput, walked_tup, walked_lst, walked_str, cutL_1, Bool.and_true, Bool.true_and, Bool.not_true, Bool.not_false, atI_zero, atI_1, ofString_inj, String.reduceEq, decide_true, decide_false, List.drop_succ_cons, List.drop_zero, e0, Nat.reduceAdd, Nat.reduceLeDiff, payO, nI]
      exact hfin
  | fin =>
    unfold nextI at hn
    rw [hk] at hn
    simp [isFin] at hn
  | send a r =>
    simp only [Ins.val, sV, nI] at e
    simp only [Ins.val, sV, nI, e, ev_bin, ev_ix, ev_and, ev_or, ev_not, ev_neg, ev_tV, ev_tand, ev_tor, ev_tnot, ev_if, ev_chain, ev_acons, ev_tup, ev_lst, ev_new, ev_call, ev_osome, ev_sl, ev_meth, ev_kget, ev_comp, ev_compN, ev_iseq, ev_range1, ev_seq, ev_set, ev_drop, ev_ret, ev_xif, ev_for, fVar, fC, aNil, oNone, xNil, xRetN, fDict, eT, bind_ite, fin3_rt, fin3_nx, fin3_ite, Option.bind_some, Option.bind_none, List.getElem?_cons_zero, List.getElem?_cons_succ, List.set_cons_zero, List.set_cons_succ, vAdd, vSub, vMul, vMod, vFdiv, vPow, vLt, vLe, vGt, vGe, vEq, vNe, vEqB, vIs, vIsnt, DD.isN, vIx_tup, vIx_lst, vIx_frz, gLen_tup, gLen_lst, gLen_frz, gTuple_tup, gTuple_lst, gList_tup, gList_lst, gInt_int, gInt_bl, vSl, wipeE, if_true, if_false, Bool.false_eq_true, decide_eq_true_eq, List.length_cons, List.length_nil, finB_0, cl_non, cl_bl, cl_int, cl_str, cl_tup, cl_lst, cls_nil, cls_cons, gLen_str, ev_zip, ev_enum, ev_text, ev_range2, ev_sub, ev_dput, walked_tup, walked_lst, walked_str, cutL_1, Bool.and_true, Bool.true_and, Bool.not_true, Bool.not_false, atI_zero, ofString_inj, String.reduceEq, decide_true, decide_false, Nat.reduceAdd, Nat.reduceLeDiff, stepOf, cast_1]
    exact fin (stepOf n (.send a r) p)
  | answer r =>
    simp only [Ins.val, sV, nI] at e
    simp only [Ins.val, sV, nI, e, ev_bin, ev_ix, ev_and, ev_or, ev_not, ev_neg, ev_tV, ev_tand, ev_tor, ev_tnot, ev_if, ev_chain, ev_acons, ev_tup, ev_lst, ev_new, ev_call, ev_osome, ev_sl, ev_meth, ev_kget, ev_comp, ev_compN, ev_iseq, ev_range1, ev_seq, ev_set, ev_drop, ev_ret, ev_xif, ev_for, fVar, fC, aNil, oNone, xNil, xRetN, fDict, eT, bind_ite, fin3_rt, fin3_nx, fin3_ite, Option.bind_some, Option.bind_none, List.getElem?_cons_zero, List.getElem?_cons_succ, List.set_cons_zero, List.set_cons_succ, vAdd, vSub, vMul, vMod, vFdiv, vPow, vLt, vLe, vGt, vGe, vEq, vNe, vEqB, vIs, vIsnt, DD.isN, vIx_tup, vIx_lst, vIx_frz, gLen_tup, gLen_lst, gLen_frz, gTuple_tup, gTuple_lst, gList_tup, gList_lst, gInt_int, gInt_bl, vSl, wipeE, if_true, if_false, Bool.false_eq_true, decide_eq_true_eq, List.length_cons, List.length_nil, finB_0, cl_non, cl_bl, cl_int, cl_str, cl_tup, cl_lst, cls_nil, cls_cons, gLen_str, ev_zip, ev_enum, ev_text, ev_range2, ev_sub, ev_dput, walked_tup, walked_lst, walked_str, cutL_1, Bool.and_true, Bool.true_and, Bool.not_true, Bool.not_false, atI_zero, ofString_inj, String.reduceEq, decide_true, decide_false, Nat.reduceAdd, Nat.reduceLeDiff, stepOf, cast_1]
    exact fin (stepOf n (.answer r) p)
  | give a s =>
    simp only [Ins.val, sV, nI] at e
    simp only [Ins.val, sV, nI, e, ev_bin, ev_ix, ev_and, ev_or, ev_not, ev_neg, ev_tV, ev_tand, ev_tor, ev_tnot, ev_if, ev_chain, ev_acons, ev_tup, ev_lst, ev_new, ev_call, ev_osome, ev_sl, ev_meth, ev_kget, ev_comp, ev_compN, ev_iseq, ev_range1, ev_seq, ev_set, ev_drop, ev_ret, ev_xif, ev_for, fVar, fC, aNil, oNone, xNil, xRetN, fDict, eT, bind_ite, fin3_rt, fin3_nx, fin3_ite, Option.bind_some, Option.bind_none, List.getElem?_cons_zero, List.getElem?_cons_succ, List.set_cons_zero, List.set_cons_succ, vAdd, vSub, vMul, vMod, vFdiv, vPow, vLt, vLe, vGt, vGe, vEq, vNe, vEqB, vIs, vIsnt, DD.isN, vIx_tup, vIx_lst, vIx_frz, gLen_tup, gLen_lst, gLen_frz, gTuple_tup, gTuple_lst, gList_tup, gList_lst, gInt_int, gInt_bl, vSl, wipeE, if_true, if_false, Bool.false_eq_true, decide_eq_true_eq, List.length_cons, List.length_nil, finB_0, cl_non, cl_bl, cl_int, cl_str, cl_tup, cl_lst, cls_nil, cls_cons, gLen_str, ev_zip, ev_enum, ev_text, ev_range2, ev_sub, ev_dput, walked_tup, walked_lst, walked_str, cutL_1, Bool.and_true, Bool.true_and, Bool.not_true, Bool.not_false, atI_zero, ofString_inj, String.reduceEq, decide_true, decide_false, Nat.reduceAdd, Nat.reduceLeDiff, stepOf, cast_1]
    exact fin (stepOf n (.give a s) p)
  | shw r =>
    simp only [Ins.val, sV, nI] at e
    simp only [Ins.val, sV, nI, e, ev_bin, ev_ix, ev_and, ev_or, ev_not, ev_neg, ev_tV, ev_tand, ev_tor, ev_tnot, ev_if, ev_chain, ev_acons, ev_tup, ev_lst, ev_new, ev_call, ev_osome, ev_sl, ev_meth, ev_kget, ev_comp, ev_compN, ev_iseq, ev_range1, ev_seq, ev_set, ev_drop, ev_ret, ev_xif, ev_for, fVar, fC, aNil, oNone, xNil, xRetN, fDict, eT, bind_ite, fin3_rt, fin3_nx, fin3_ite, Option.bind_some, Option.bind_none, List.getElem?_cons_zero, List.getElem?_cons_succ, List.set_cons_zero, List.set_cons_succ, vAdd, vSub, vMul, vMod, vFdiv, vPow, vLt, vLe, vGt, vGe, vEq, vNe, vEqB, vIs, vIsnt, DD.isN, vIx_tup, vIx_lst, vIx_frz, gLen_tup, gLen_lst, gLen_frz, gTuple_tup, gTuple_lst, gList_tup, gList_lst, gInt_int, gInt_bl, vSl, wipeE, if_true, if_false, Bool.false_eq_true, decide_eq_true_eq, List.length_cons, List.length_nil, finB_0, cl_non, cl_bl, cl_int, cl_str, cl_tup, cl_lst, cls_nil, cls_cons, gLen_str, ev_zip, ev_enum, ev_text, ev_range2, ev_sub, ev_dput, walked_tup, walked_lst, walked_str, cutL_1, Bool.and_true, Bool.true_and, Bool.not_true, Bool.not_false, atI_zero, ofString_inj, String.reduceEq, decide_true, decide_false, Nat.reduceAdd, Nat.reduceLeDiff, stepOf, cast_1]
    exact fin (stepOf n (.shw r) p)
end
end K02

set_option Elab.async false
set_option linter.all false
set_option maxRecDepth 100000
set_option maxHeartbeats 4000000
/-! the states that the law draws -/
namespace K02
open PySem L2 DD
section
variable {st : Store} {k : List Ins} {p : PS}
theorem finB_pre {s : Store} {v : Val} (h : st <+: s) (hv : cl 0 v = true) : finB st s v = some (v, st) := by
  obtain ⟨t, rfl⟩ := h
  exact finB_1 hv
theorem n_payload {i : Nat} {x : Int} {c : Nat} (hc : 2 ≤ c) (hc5 : c ≤ 5) (h : st[i]? = some (.list [.int x])) : ∃ (y : Pay) (z : Int), g__law_payload [.ref i, .int (c : Int)] st = some (y.val, st.set i (.list [.int z])) := by
  rw [gd__law_payload]
  have t1 := n_take h (show (0 : Int) < 3 by decide) (by decide)
  have t2 := n_take (set_get (y := .list [.int (x / 3)]) h) (show (0 : Int) < 4 by decide) (by decide)
  have t3 := n_take (set_get (y := .list [.int (x / 3)]) h) (show (0 : Int) < (c : Int) by omega) (by omega)
  have t4 := n_take (set_get (y := .list [.int (x / 3 / (c : Int))]) h) (show (0 : Int) < 3 by decide) (by decide)
  rw [List.set_set] at t2 t3 t4
  simp only [b__law_payload, ev_bin, ev_ix, ev_and, ev_or, ev_not, ev_neg, ev_tV, ev_tand, ev_tor, ev_tnot, ev_if, ev_chain, ev_acons, ev_tup, ev_lst, ev_new, ev_call, ev_osome, ev_sl, ev_meth, ev_kget, ev_comp, ev_compN, ev_iseq, ev_range1, ev_seq, ev_set, ev_drop, ev_ret, ev_xif, ev_for, fVar, fC, aNil, oNone, xNil, xRetN, fDict, eT, bind_ite, fin3_rt, fin3_nx, fin3_ite, Option.bind_some, Option.bind_none, List.getElem?_cons_zero, List.getElem?_cons_succ, List.set_cons_zero, List.set_cons_succ, vAdd, vSub, vMul, vMod, vFdiv, vPow, vLt, vLe, vGt, vGe, vEq, vNe, vEqB, vIs, vIsnt, DD.isN, vIx_tup, vIx_lst, vIx_frz, gLen_tup, gLen_lst, gLen_frz, gTuple_tup, gTuple_lst, gList_tup, gList_lst, gInt_int, gInt_bl, vSl, wipeE, if_true, if_false, Bool.false_eq_true, decide_eq_true_eq, List.length_cons, List.length_nil, finB_0, cl_non, cl_bl, cl_int, cl_str, cl_tup, cl_lst, cls_nil, cls_cons, gLen_str, ev_zip, ev_enum, ev_text, ev_range2, ev_sub, ev_dput, walked_tup, walked_lst, walked_str, cutL_1, Bool.and_true, Bool.true_and, Bool.not_true, Bool.not_false, t1]
  by_cases h0 : 0 < x % 3
  · obtain ⟨v, v1, v2⟩ := nv_mod (l := [0, 1, 7, 999]) (x := x / 3) (by decide)
    have v3 : atI [Val.int 0, .int 1, .int 7, .int 999] (x / 3 % 4) = some (.int (v : Int)) := v1
    simp only [h0, decide_true, ev_bin, ev_ix, ev_and, ev_or, ev_not, ev_neg, ev_tV, ev_tand, ev_tor, ev_tnot, ev_if, ev_chain, ev_acons, ev_tup, ev_lst, ev_new, ev_call, ev_osome, ev_sl, ev_meth, ev_kget, ev_comp, ev_compN, ev_iseq, ev_range1, ev_seq, ev_set, ev_drop, ev_ret, ev_xif, ev_for, fVar, fC, aNil, oNone, xNil, xRetN, fDict, eT, bind_ite, fin3_rt, fin3_nx, fin3_ite, Option.bind_some, Option.bind_none, List.getElem?_cons_zero, List.getElem?_cons_succ, List.set_cons_zero, List.set_cons_succ, vAdd, vSub, vMul, vMod, vFdiv, vPow, vLt, vLe, vGt, vGe, vEq, vNe, vEqB, vIs, vIsnt, DD.isN, vIx_tup, vIx_lst, vIx_frz, gLen_tup, gLen_lst, gLen_frz, gTuple_tup, gTuple_lst, gList_tup, gList_lst, gInt_int, gInt_bl, vSl, wipeE, if_true, if_false, Bool.false_eq_true, decide_eq_true_eq, List.length_cons, List.length_nil, finB_0, cl_non, cl_bl, cl_int, cl_str, cl_tup, cl_lst, cls_nil, cls_cons, gLen_str, ev_zip, ev_enum, ev_text, ev_range2, ev_sub, ev_dput, walked_tup, walked_lst, walked_str, cutL_1, Bool.and_true, Bool.true_and, Bool.not_true, Bool.not_false, Nat.reduceAdd, Nat.reduceLeDiff, t2, v3]
    exact ⟨.num v, _, finB_s rfl (pay_cl (y := .num v))⟩
  · obtain ⟨a, a1, a2⟩ := nat_of (x := x / 3) (s := (c : Int)) (by omega)
    obtain ⟨b, b1, b2⟩ := nat_of (x := x / 3 / (c : Int)) (s := 3) (by decide)
    simp only [h0, decide_false, ev_bin, ev_ix, ev_and, ev_or, ev_not, ev_neg, ev_tV, ev_tand, ev_tor, ev_tnot, ev_if, ev_chain, ev_acons, ev_tup, ev_lst, ev_new, ev_call, ev_osome, ev_sl, ev_meth, ev_kget, ev_comp, ev_compN, ev_iseq, ev_range1, ev_seq, ev_set, ev_drop, ev_ret, ev_xif, ev_for, fVar, fC, aNil, oNone, xNil, xRetN, fDict, eT, bind_ite, fin3_rt, fin3_nx, fin3_ite, Option.bind_some, Option.bind_none, List.getElem?_cons_zero, List.getElem?_cons_succ, List.set_cons_zero, List.set_cons_succ, vAdd, vSub, vMul, vMod, vFdiv, vPow, vLt, vLe, vGt, vGe, vEq, vNe, vEqB, vIs, vIsnt, DD.isN, vIx_tup, vIx_lst, vIx_frz, gLen_tup, gLen_lst, gLen_frz, gTuple_tup, gTuple_lst, gList_tup, gList_lst, gInt_int, gInt_bl, vSl, wipeE, if_true, if_false, Bool.false_eq_true, decide_eq_true_eq, List.length_cons, List.length_nil, finB_0, cl_non, cl_bl, cl_int, cl_str, cl_tup, cl_lst, cls_nil, cls_cons, gLen_str, ev_zip, ev_enum, ev_text, ev_range2, ev_sub, ev_dput, walked_tup, walked_lst, walked_str, cutL_1, Bool.and_true, Bool.true_and, Bool.not_true, Bool.not_false, Nat.reduceAdd, Nat.reduceLeDiff, t3, t4, a1, b1]
    exact ⟨.obj a b, _, finB_s rfl (pay_cl (y := .obj a b))⟩
theorem get3 {a : Cell} {t : Store} : ((st ++ [a]) ++ t)[st.length]? = some a := by
  rw [List.getElem?_append_left (by rw [List.length_append, List.length_singleton]; omega)]
  exact getElem?_append_self
theorem set3 {a x : Cell} {t : Store} : ((st ++ [a]) ++ t).set st.length x = (st ++ [x]) ++ t := by
  rw [List.set_append_left _ _ (by rw [List.length_append, List.length_singleton]; omega), set_append_self]
theorem nv_eq {l : List Nat} : l.map nI = nv l := rfl
theorem n_state {x : Int} {c n : Nat} (hc : 2 ≤ c) (hc5 : c ≤ 5) (hk : k.length ≤ 15) : ∃ p : PS, g__law_state [.int x, codeV k, .int (c : Int), .int (n : Int)] st = some (p.val, st) ∧ p.ok := by
  rw [gd__law_state]
  simp only [b__law_state, ev_bin, ev_ix, ev_and, ev_or, ev_not, ev_neg, ev_tV, ev_tand, ev_tor, ev_tnot, ev_if, ev_chain, ev_acons, ev_tup, ev_lst, ev_new, ev_call, ev_osome, ev_sl, ev_meth, ev_kget, ev_comp, ev_compN, ev_iseq, ev_range1, ev_seq, ev_set, ev_drop, ev_ret, ev_xif, ev_for, fVar, fC, aNil, oNone, xNil, xRetN, fDict, eT, bind_ite, fin3_rt, fin3_nx, fin3_ite, Option.bind_some, Option.bind_none, List.getElem?_cons_zero, List.getElem?_cons_succ, List.set_cons_zero, List.set_cons_succ, vAdd, vSub, vMul, vMod, vFdiv, vPow, vLt, vLe, vGt, vGe, vEq, vNe, vEqB, vIs, vIsnt, DD.isN, vIx_tup, vIx_lst, vIx_frz, gLen_tup, gLen_lst, gLen_frz, gTuple_tup, gTuple_lst, gList_tup, gList_lst, gInt_int, gInt_bl, vSl, wipeE, if_true, if_false, Bool.false_eq_true, decide_eq_true_eq, List.length_cons, List.length_nil, finB_0, cl_non, cl_bl, cl_int, cl_str, cl_tup, cl_lst, cls_nil, cls_cons, gLen_str, ev_zip, ev_enum, ev_text, ev_range2, ev_sub, ev_dput, walked_tup, walked_lst, walked_str, cutL_1, Bool.and_true, Bool.true_and, Bool.not_true, Bool.not_false, Nat.reduceAdd, Nat.reduceLeDiff]
  rw [if_pos ⟨by omega, by omega⟩]
  rw [if_pos (by rw [rng_len]; omega)]
  rw [others_eq (n := n) (fun x hx => ⟨_, rfl, by simp only [ev_bin, ev_ix, ev_and, ev_or, ev_not, ev_neg, ev_tV, ev_tand, ev_tor, ev_tnot, ev_if, ev_chain, ev_acons, ev_tup, ev_lst, ev_new, ev_call, ev_osome, ev_sl, ev_meth, ev_kget, ev_comp, ev_compN, ev_iseq, ev_range1, ev_seq, ev_set, ev_drop, ev_ret, ev_xif, ev_for, fVar, fC, aNil, oNone, xNil, xRetN, fDict, eT, bind_ite, fin3_rt, fin3_nx, fin3_ite, Option.bind_some, Option.bind_none, List.getElem?_cons_zero, List.getElem?_cons_succ, List.set_cons_zero, List.set_cons_succ, vAdd, vSub, vMul, vMod, vFdiv, vPow, vLt, vLe, vGt, vGe, vEq, vNe, vEqB, vIs, vIsnt, DD.isN, vIx_tup, vIx_lst, vIx_frz, gLen_tup, gLen_lst, gLen_frz, gTuple_tup, gTuple_lst, gList_tup, gList_lst, gInt_int, gInt_bl, vSl, wipeE, if_true, if_false, Bool.false_eq_true, decide_eq_true_eq, List.length_cons, List.length_nil, finB_0, cl_non, cl_bl, cl_int, cl_str, cl_tup, cl_lst, cls_nil, cls_cons, gLen_str, ev_zip, ev_enum, ev_text, ev_range2, ev_sub, ev_dput, walked_tup, walked_lst, walked_str, cutL_1, Bool.and_true, Bool.true_and, Bool.not_true, Bool.not_false, nI]; show (match Val.bl (!decide ((x : Int) = (n : Int))) with | .bl b => some (b, st ++ _) | _ => none) = _; show some (!decide ((x : Int) = (n : Int)), st ++ _) = _; rw [ne_dec], rfl⟩)]
  have hO2 := others_pos (n := n) hc
  have hO3 := others_len (c := c) (n := n)
  have hO2' : 0 < ((nv (othersN c n)).length : Int) := by rw [nv_len]; omega
  have hO3' : ((nv (othersN c n)).length : Int) < 1073741824 := by rw [nv_len]; omega
  simp only [ev_bin, ev_ix, ev_and, ev_or, ev_not, ev_neg, ev_tV, ev_tand, ev_tor, ev_tnot, ev_if, ev_chain, ev_acons, ev_tup, ev_lst, ev_new, ev_call, ev_osome, ev_sl, ev_meth, ev_kget, ev_comp, ev_compN, ev_iseq, ev_range1, ev_seq, ev_set, ev_drop, ev_ret, ev_xif, ev_for, fVar, fC, aNil, oNone, xNil, xRetN, fDict, eT, bind_ite, fin3_rt, fin3_nx, fin3_ite, Option.bind_some, Option.bind_none, List.getElem?_cons_zero, List.getElem?_cons_succ, List.set_cons_zero, List.set_cons_succ, vAdd, vSub, vMul, vMod, vFdiv, vPow, vLt, vLe, vGt, vGe, vEq, vNe, vEqB, vIs, vIsnt, DD.isN, vIx_tup, vIx_lst, vIx_frz, gLen_tup, gLen_lst, gLen_frz, gTuple_tup, gTuple_lst, gList_tup, gList_lst, gInt_int, gInt_bl, vSl, wipeE, if_true, if_false, Bool.false_eq_true, decide_eq_true_eq, List.length_cons, List.length_nil, finB_0, cl_non, cl_bl, cl_int, cl_str, cl_tup, cl_lst, cls_nil, cls_cons, gLen_str, ev_zip, ev_enum, ev_text, ev_range2, ev_sub, ev_dput, walked_tup, walked_lst, walked_str, cutL_1, Bool.and_true, Bool.true_and, Bool.not_true, Bool.not_false, Int.reduceNeg, Int.reduceLE, and_self, Int.reduceToNat, rng_len, Nat.reduceLeDiff]
  obtain ⟨R, s1, r1, ⟨y1, rfl⟩, r2, _⟩ := loopC_genT (t := .one 8) (fe := fIx vIx (fLst (aCons (fC (.int 0)) (aCons (fC (.int 1)) (aCons (fC (.int 5)) (aCons (fC (.int 999)) aNil))))) (fCall g__law_take (aCons (fVar 4) (aCons (fC (.int 4)) aNil)))) (env := [some (.int x), some (codeV k), some (.int (c : Int)), some (.int (n : Int)), some (.ref st.length), some (.lst (nv (othersN c n))), none, none, none, none, none, none, none, none]) nI (fun _ _ => True) (fun s => ∃ y, s = st ++ [Cell.list [.int y]]) (l := rng 0 4) (k := 0) (st := st ++ [Cell.list [.int x]]) ⟨x, rfl⟩ (by
    rintro i v hv s ⟨y, rfl⟩
    obtain ⟨w, w1, w2⟩ := nv_mod (l := [0, 1, 5, 999]) (x := y) (by decide)
    have w3 : atI [Val.int 0, .int 1, .int 5, .int 999] (y % 4) = some (.int (w : Int)) := w1
    refine ⟨_, w, st ++ [Cell.list [.int (y / 4)]], rfl, ?_, ⟨_, rfl⟩, trivial⟩
    simp only [ev_bin, ev_ix, ev_and, ev_or, ev_not, ev_neg, ev_tV, ev_tand, ev_tor, ev_tnot, ev_if, ev_chain, ev_acons, ev_tup, ev_lst, ev_new, ev_call, ev_osome, ev_sl, ev_meth, ev_kget, ev_comp, ev_compN, ev_iseq, ev_range1, ev_seq, ev_set, ev_drop, ev_ret, ev_xif, ev_for, fVar, fC, aNil, oNone, xNil, xRetN, fDict, eT, bind_ite, fin3_rt, fin3_nx, fin3_ite, Option.bind_some, Option.bind_none, List.getElem?_cons_zero, List.getElem?_cons_succ, List.set_cons_zero, List.set_cons_succ, vAdd, vSub, vMul, vMod, vFdiv, vPow, vLt, vLe, vGt, vGe, vEq, vNe, vEqB, vIs, vIsnt, DD.isN, vIx_tup, vIx_lst, vIx_frz, gLen_tup, gLen_lst, gLen_frz, gTuple_tup, gTuple_lst, gList_tup, gList_lst, gInt_int, gInt_bl, vSl, wipeE, if_true, if_false, Bool.false_eq_true, decide_eq_true_eq, List.length_cons, List.length_nil, finB_0, cl_non, cl_bl, cl_int, cl_str, cl_tup, cl_lst, cls_nil, cls_cons, gLen_str, ev_zip, ev_enum, ev_text, ev_range2, ev_sub, ev_dput, walked_tup, walked_lst, walked_str, cutL_1, Bool.and_true, Bool.true_and, Bool.not_true, Bool.not_false, Nat.reduceAdd, Nat.reduceLeDiff, n_take_last (show (0 : Int) < 4 by decide) (show (4 : Int) < 1073741824 by decide), w3, nI])
  rw [r1]
  simp only [ev_bin, ev_ix, ev_and, ev_or, ev_not, ev_neg, ev_tV, ev_tand, ev_tor, ev_tnot, ev_if, ev_chain, ev_acons, ev_tup, ev_lst, ev_new, ev_call, ev_osome, ev_sl, ev_meth, ev_kget, ev_comp, ev_compN, ev_iseq, ev_range1, ev_seq, ev_set, ev_drop, ev_ret, ev_xif, ev_for, fVar, fC, aNil, oNone, xNil, xRetN, fDict, eT, bind_ite, fin3_rt, fin3_nx, fin3_ite, Option.bind_some, Option.bind_none, List.getElem?_cons_zero, List.getElem?_cons_succ, List.set_cons_zero, List.set_cons_succ, vAdd, vSub, vMul, vMod, vFdiv, vPow, vLt, vLe, vGt, vGe, vEq, vNe, vEqB, vIs, vIsnt, DD.isN, vIx_tup, vIx_lst, vIx_frz, gLen_tup, gLen_lst, gLen_frz, gTuple_tup, gTuple_lst, gList_tup, gList_lst, gInt_int, gInt_bl, vSl, wipeE, if_true, if_false, Bool.false_eq_true, decide_eq_true_eq, List.length_cons, List.length_nil, finB_0, cl_non, cl_bl, cl_int, cl_str, cl_tup, cl_lst, cls_nil, cls_cons, gLen_str, ev_zip, ev_enum, ev_text, ev_range2, ev_sub, ev_dput, walked_tup, walked_lst, walked_str, cutL_1, Bool.and_true, Bool.true_and, Bool.not_true, Bool.not_false, Int.reduceNeg, Int.reduceLE, and_self, Int.reduceToNat, rng_len, Nat.reduceLeDiff]
  obtain ⟨S, s2, q1, ⟨y2, rfl⟩, q2, _⟩ := loopC_genT (t := .one 8) (fe := fIx vIx (fLst (aCons (fC .non) (aCons (fTup (aCons (fCall g__law_take (aCons (fVar 4) (aCons (fVar 2) aNil))) (aCons (fCall g__law_take (aCons (fVar 4) (aCons (fC (.int 3)) aNil))) aNil))) aNil))) (fCall g__law_take (aCons (fVar 4) (aCons (fC (.int 2)) aNil)))) (env := [some (.int x), some (codeV k), some (.int (c : Int)), some (.int (n : Int)), some (.ref st.length), some (.lst (nv (othersN c n))), none, some (.tup (R.map nI)), none, none, none, none, none, none]) slotV (fun _ _ => True) (fun s => ∃ y, s = st ++ [Cell.list [.int y]]) (l := rng 0 3) (k := 0) (st := st ++ [Cell.list [.int y1]]) ⟨y1, rfl⟩ (by
    rintro i v hv s ⟨y, rfl⟩
    obtain ⟨a, a1, a2⟩ := nat_of (x := y) (s := (c : Int)) (by omega)
    obtain ⟨b, b1, b2⟩ := nat_of (x := y / (c : Int)) (s := 3) (by decide)
    obtain ⟨w, w1, w2⟩ := atI_mod (l := [slotV none, slotV (some (a, b))]) (x := y / (c : Int) / 3) (by simp)
    have w3 : atI [Val.non, .tup [.int (a : Int), .int (b : Int)]] (y / (c : Int) / 3 % 2) = some w := w1
    simp only [List.mem_cons, List.not_mem_nil, or_false] at w2
    rcases w2 with rfl | rfl
    · refine ⟨_, none, st ++ [Cell.list [.int (y / (c : Int) / 3 / 2)]], rfl, ?_, ⟨_, rfl⟩, trivial⟩
      simp only [ev_bin, ev_ix, ev_and, ev_or, ev_not, ev_neg, ev_tV, ev_tand, ev_tor, ev_tnot, ev_if, ev_chain, ev_acons, ev_tup, ev_lst, ev_new, ev_call, ev_osome, ev_sl, ev_meth, ev_kget, ev_comp, ev_compN, ev_iseq, ev_range1, ev_seq, ev_set, ev_drop, ev_ret, ev_xif, ev_for, fVar, fC, aNil, oNone, xNil, xRetN, fDict, eT, bind_ite, fin3_rt, fin3_nx, fin3_ite, Option.bind_some, Option.bind_none, List.getElem?_cons_zero, List.getElem?_cons_succ, List.set_cons_zero, List.set_cons_succ, vAdd, vSub, vMul, vMod, vFdiv, vPow, vLt, vLe, vGt, vGe, vEq, vNe, vEqB, vIs, vIsnt, DD.isN, vIx_tup, vIx_lst, vIx_frz, gLen_tup, gLen_lst, gLen_frz, gTuple_tup, gTuple_lst, gList_tup, gList_lst, gInt_int, gInt_bl, vSl, wipeE, if_true, if_false, Bool.false_eq_true, decide_eq_true_eq, List.length_cons, List.length_nil, finB_0, cl_non, cl_bl, cl_int, cl_str, cl_tup, cl_lst, cls_nil, cls_cons, gLen_str, ev_zip, ev_enum, ev_text, ev_range2, ev_sub, ev_dput, walked_tup, walked_lst, walked_str, cutL_1, Bool.and_true, Bool.true_and, Bool.not_true, Bool.not_false, Nat.reduceAdd, Nat.reduceLeDiff, n_take_last (show (0 : Int) < (c : Int) by omega) (show (c : Int) < 1073741824 by omega), n_take_last (show (0 : Int) < 3 by decide) (show (3 : Int) < 1073741824 by decide), n_take_last (show (0 : Int) < 2 by decide) (show (2 : Int) < 1073741824 by decide), a1, b1, w3]
    · refine ⟨_, some (a, b), st ++ [Cell.list [.int (y / (c : Int) / 3 / 2)]], rfl, ?_, ⟨_, rfl⟩, trivial⟩
      simp only [ev_bin, ev_ix, ev_and, ev_or, ev_not, ev_neg, ev_tV, ev_tand, ev_tor, ev_tnot, ev_if, ev_chain, ev_acons, ev_tup, ev_lst, ev_new, ev_call, ev_osome, ev_sl, ev_meth, ev_kget, ev_comp, ev_compN, ev_iseq, ev_range1, ev_seq, ev_set, ev_drop, ev_ret, ev_xif, ev_for, fVar, fC, aNil, oNone, xNil, xRetN, fDict, eT, bind_ite, fin3_rt, fin3_nx, fin3_ite, Option.bind_some, Option.bind_none, List.getElem?_cons_zero, List.getElem?_cons_succ, List.set_cons_zero, List.set_cons_succ, vAdd, vSub, vMul, vMod, vFdiv, vPow, vLt, vLe, vGt, vGe, vEq, vNe, vEqB, vIs, vIsnt, DD.isN, vIx_tup, vIx_lst, vIx_frz, gLen_tup, gLen_lst, gLen_frz, gTuple_tup, gTuple_lst, gList_tup, gList_lst, gInt_int, gInt_bl, vSl, wipeE, if_true, if_false, Bool.false_eq_true, decide_eq_true_eq, List.length_cons, List.length_nil, finB_0, cl_non, cl_bl, cl_int, cl_str, cl_tup, cl_lst, cls_nil, cls_cons, gLen_str, ev_zip, ev_enum, ev_text, ev_range2, ev_sub, ev_dput, walked_tup, walked_lst, walked_str, cutL_1, Bool.and_true, Bool.true_and, Bool.not_true, Bool.not_false, Nat.reduceAdd, Nat.reduceLeDiff, n_take_last (show (0 : Int) < (c : Int) by omega) (show (c : Int) < 1073741824 by omega), n_take_last (show (0 : Int) < 3 by decide) (show (3 : Int) < 1073741824 by decide), n_take_last (show (0 : Int) < 2 by decide) (show (2 : Int) < 1073741824 by decide), a1, b1, w3])
  rw [q1]
  have t6 : g__law_take [.ref st.length, .int 6] ((st ++ [Cell.list [.int y2]]) ++ [Cell.list []]) = some (.int (y2 % 6), (st ++ [Cell.list [.int (y2 / 6)]]) ++ [Cell.list []]) := by
    rw [n_take get2 (by decide) (by decide), set2]
  simp only [ev_bin, ev_ix, ev_and, ev_or, ev_not, ev_neg, ev_tV, ev_tand, ev_tor, ev_tnot, ev_if, ev_chain, ev_acons, ev_tup, ev_lst, ev_new, ev_call, ev_osome, ev_sl, ev_meth, ev_kget, ev_comp, ev_compN, ev_iseq, ev_range1, ev_seq, ev_set, ev_drop, ev_ret, ev_xif, ev_for, fVar, fC, aNil, oNone, xNil, xRetN, fDict, eT, bind_ite, fin3_rt, fin3_nx, fin3_ite, Option.bind_some, Option.bind_none, List.getElem?_cons_zero, List.getElem?_cons_succ, List.set_cons_zero, List.set_cons_succ, vAdd, vSub, vMul, vMod, vFdiv, vPow, vLt, vLe, vGt, vGe, vEq, vNe, vEqB, vIs, vIsnt, DD.isN, vIx_tup, vIx_lst, vIx_frz, gLen_tup, gLen_lst, gLen_frz, gTuple_tup, gTuple_lst, gList_tup, gList_lst, gInt_int, gInt_bl, vSl, wipeE, if_true, if_false, Bool.false_eq_true, decide_eq_true_eq, List.length_cons, List.length_nil, finB_0, cl_non, cl_bl, cl_int, cl_str, cl_tup, cl_lst, cls_nil, cls_cons, gLen_str, ev_zip, ev_enum, ev_text, ev_range2, ev_sub, ev_dput, walked_tup, walked_lst, walked_str, cutL_1, Bool.and_true, Bool.true_and, Bool.not_true, Bool.not_false, Nat.zero_le, t6]
  obtain ⟨m, m1, m2⟩ := nat_of (x := y2) (s := 6) (by decide)
  rw [m1]
  rw [if_pos ⟨by omega, by omega⟩]
  generalize hB : st ++ [Cell.list [.int (y2 / 6)]] = B
  have hBl : (st ++ [Cell.list [.int y2]]).length = B.length := by rw [← hB, List.length_append, List.length_append]; rfl
  have hBp : st <+: B := by rw [← hB]; exact List.prefix_append _ _
  rw [hBl]
  obtain ⟨env', s3, g1, l, o8, o11, t, rfl, rfl, g2⟩ := loopF_inv (t := .one 8) (body := xSeq (xSet (.one 11) (fNew (aCons (fCall g__law_number (aCons (fLst (aCons (fVar 0) aNil)) (aCons (fBin vAdd (fC (.int 3)) (fVar 8)) aNil))) aNil)))
  (xDrop (fMeth "list" gAppend (fVar 10) (aCons (fTup (aCons (fIx vIx (fVar 5) (fCall g__law_take (aCons (fVar 11) (aCons (fCall gLen (aCons (fVar 5) aNil)) aNil)))) (aCons (fCall g__law_payload (aCons (fVar 11) (aCons (fVar 2) aNil))) aNil))) aNil))))
    (fun k' env s => ∃ (l : List (Nat × Pay)) (o8 o11 : Option Val) (t : Store), env = [some (.int x), some (codeV k), some (.int (c : Int)), some (.int (n : Int)), some (.ref st.length), some (.lst (nv (othersN c n))), none, some (.tup (R.map nI)), o8, some (.tup (S.map slotV)), some (.ref B.length), o11, none, none] ∧ s = (B ++ [Cell.list (l.map itemV)]) ++ t ∧ l.length = k')
    (l := rng 0 (m : Int).toNat) (k := 0) (env := [some (.int x), some (codeV k), some (.int (c : Int)), some (.int (n : Int)), some (.ref st.length), some (.lst (nv (othersN c n))), none, some (.tup (R.map nI)), none, some (.tup (S.map slotV)), some (.ref B.length), none, none, none]) (st := B ++ [Cell.list []]) ⟨[], none, none, [], rfl, by rw [List.append_nil]; rfl, rfl⟩ (by
    rintro i v env s hi ⟨l, o8, o11, t, rfl, rfl, hl⟩
    have hlt : i < m := by
      have := (List.getElem?_eq_some_iff.mp hi).1
      rwa [rng_len, Int.toNat_natCast] at this
    rw [Int.toNat_natCast, rng_get hlt] at hi
    cases hi
    generalize hs : (B ++ [Cell.list (l.map itemV)]) ++ t = s
    obtain ⟨z, hz⟩ := n_number (st := s) (v := .lst [.int x]) (l := [.int x]) (k := 3 + (i : Int)) (.inr rfl) (fun w hw => ⟨x, by simpa using hw⟩)
    obtain ⟨to, e1, e2⟩ := nv_mod (x := z) hO2
    rw [← nv_len] at e1
    obtain ⟨y, z2, hy⟩ := n_payload (st := s ++ [Cell.list [.int (z / ((nv (othersN c n)).length : Int))]]) hc hc5 getElem?_append_self
    rw [set_append_self] at hy
    have hr : (s ++ [Cell.list [.int z2]])[B.length]? = some (.list (l.map itemV)) := by rw [← hs, List.append_assoc]; exact get3
    have hr0 : (s ++ [Cell.list [.int z]])[B.length]? = some (.list (l.map itemV)) := by rw [← hs, List.append_assoc]; exact get3
    have hset : ∀ b, (s ++ [Cell.list [.int z2]]).set B.length b = (B ++ [b]) ++ (t ++ [Cell.list [.int z2]]) := fun b => by rw [← hs, List.append_assoc]; exact set3
    refine ⟨_, [some (.int x), some (codeV k), some (.int (c : Int)), some (.int (n : Int)), some (.ref st.length), some (.lst (nv (othersN c n))), none, some (.tup (R.map nI)), some (.int (i : Int)), some (.tup (S.map slotV)), some (.ref B.length), some (.ref s.length), none, none], (B ++ [Cell.list ((l ++ [(to, y)]).map itemV)]) ++ (t ++ [Cell.list [.int z2]]), rfl, .inl ?_, l ++ [(to, y)], _, _, _, rfl, rfl, by rw [List.length_append, hl]; rfl⟩
    simp only [ev_bin, ev_ix, ev_and, ev_or, ev_not, ev_neg, ev_tV, ev_tand, ev_tor, ev_tnot, ev_if, ev_chain, ev_acons, ev_tup, ev_lst, ev_new, ev_call, ev_osome, ev_sl, ev_meth, ev_kget, ev_comp, ev_compN, ev_iseq, ev_range1, ev_seq, ev_set, ev_drop, ev_ret, ev_xif, ev_for, fVar, fC, aNil, oNone, xNil, xRetN, fDict, eT, bind_ite, fin3_rt, fin3_nx, fin3_ite, Option.bind_some, Option.bind_none, List.getElem?_cons_zero, List.getElem?_cons_succ, List.set_cons_zero, List.set_cons_succ, vAdd, vSub, vMul, vMod, vFdiv, vPow, vLt, vLe, vGt, vGe, vEq, vNe, vEqB, vIs, vIsnt, DD.isN, vIx_tup, vIx_lst, vIx_frz, gLen_tup, gLen_lst, gLen_frz, gTuple_tup, gTuple_lst, gList_tup, gList_lst, gInt_int, gInt_bl, vSl, wipeE, if_true, if_false, Bool.false_eq_true, decide_eq_true_eq, List.length_cons, List.length_nil, finB_0, cl_non, cl_bl, cl_int, cl_str, cl_tup, cl_lst, cls_nil, cls_cons, gLen_str, ev_zip, ev_enum, ev_text, ev_range2, ev_sub, ev_dput, walked_tup, walked_lst, walked_str, cutL_1, Bool.and_true, Bool.true_and, Bool.not_true, Bool.not_false, eT, Nat.reduceAdd, Nat.reduceLeDiff, hz, recv_of hr0, n_take_last hO2' hO3', e1, hy, append_eq hr (show (l.map itemV).length < 100000 by rw [List.length_map]; omega), hset, List.map_append]
    rfl)
  rw [g1]
  rw [rng_len, Nat.zero_add, Int.toNat_natCast] at g2
  simp only [ev_bin, ev_ix, ev_and, ev_or, ev_not, ev_neg, ev_tV, ev_tand, ev_tor, ev_tnot, ev_if, ev_chain, ev_acons, ev_tup, ev_lst, ev_new, ev_call, ev_osome, ev_sl, ev_meth, ev_kget, ev_comp, ev_compN, ev_iseq, ev_range1, ev_seq, ev_set, ev_drop, ev_ret, ev_xif, ev_for, fVar, fC, aNil, oNone, xNil, xRetN, fDict, eT, bind_ite, fin3_rt, fin3_nx, fin3_ite, Option.bind_some, Option.bind_none, List.getElem?_cons_zero, List.getElem?_cons_succ, List.set_cons_zero, List.set_cons_succ, vAdd, vSub, vMul, vMod, vFdiv, vPow, vLt, vLe, vGt, vGe, vEq, vNe, vEqB, vIs, vIsnt, DD.isN, vIx_tup, vIx_lst, vIx_frz, gLen_tup, gLen_lst, gLen_frz, gTuple_tup, gTuple_lst, gList_tup, gList_lst, gInt_int, gInt_bl, vSl, wipeE, if_true, if_false, Bool.false_eq_true, decide_eq_true_eq, List.length_cons, List.length_nil, finB_0, cl_non, cl_bl, cl_int, cl_str, cl_tup, cl_lst, cls_nil, cls_cons, gLen_str, ev_zip, ev_enum, ev_text, ev_range2, ev_sub, ev_dput, walked_tup, walked_lst, walked_str, cutL_1, Bool.and_true, Bool.true_and, Bool.not_true, Bool.not_false]
  generalize hs : (B ++ [Cell.list (l.map itemV)]) ++ t = s
  obtain ⟨z, hz⟩ := n_number (st := s) (v := .lst [.int x]) (l := [.int x]) (k := 1) (.inr rfl) (fun w hw => ⟨x, by simpa using hw⟩)
  obtain ⟨to, e1, e2⟩ := nv_mod (x := z) hO2
  rw [← nv_len] at e1
  simp only [ev_bin, ev_ix, ev_and, ev_or, ev_not, ev_neg, ev_tV, ev_tand, ev_tor, ev_tnot, ev_if, ev_chain, ev_acons, ev_tup, ev_lst, ev_new, ev_call, ev_osome, ev_sl, ev_meth, ev_kget, ev_comp, ev_compN, ev_iseq, ev_range1, ev_seq, ev_set, ev_drop, ev_ret, ev_xif, ev_for, fVar, fC, aNil, oNone, xNil, xRetN, fDict, eT, bind_ite, fin3_rt, fin3_nx, fin3_ite, Option.bind_some, Option.bind_none, List.getElem?_cons_zero, List.getElem?_cons_succ, List.set_cons_zero, List.set_cons_succ, vAdd, vSub, vMul, vMod, vFdiv, vPow, vLt, vLe, vGt, vGe, vEq, vNe, vEqB, vIs, vIsnt, DD.isN, vIx_tup, vIx_lst, vIx_frz, gLen_tup, gLen_lst, gLen_frz, gTuple_tup, gTuple_lst, gList_tup, gList_lst, gInt_int, gInt_bl, vSl, wipeE, if_true, if_false, Bool.false_eq_true, decide_eq_true_eq, List.length_cons, List.length_nil, finB_0, cl_non, cl_bl, cl_int, cl_str, cl_tup, cl_lst, cls_nil, cls_cons, gLen_str, ev_zip, ev_enum, ev_text, ev_range2, ev_sub, ev_dput, walked_tup, walked_lst, walked_str, cutL_1, Bool.and_true, Bool.true_and, Bool.not_true, Bool.not_false, Nat.reduceAdd, Nat.reduceLeDiff, hz, n_take_last hO2' hO3', e1]
  obtain ⟨sn, f1, f2⟩ := atI_mod (l := [optV none, optV (some to)]) (x := z / ((nv (othersN c n)).length : Int)) (by simp)
  have f3 : atI [Val.non, nI to] (z / ((nv (othersN c n)).length : Int) % 2) = some sn := f1
  obtain ⟨so, hso⟩ : ∃ o : Option Nat, sn = optV o := by
    simp only [List.mem_cons, List.not_mem_nil, or_false] at f2
    rcases f2 with rfl | rfl
    · exact ⟨none, rfl⟩
    · exact ⟨some to, rfl⟩
  obtain ⟨ac, h1, h2⟩ := nv_mod (l := [0, 3, 38, 39, 40]) (x := z / ((nv (othersN c n)).length : Int) / 2) (by decide)
  have h3 : atI [Val.int 0, .int 3, .int 38, .int 39, .int 40] (z / ((nv (othersN c n)).length : Int) / 2 % 5) = some (.int (ac : Int)) := h1
  obtain ⟨av, i1, i2⟩ := nat_of (x := z / ((nv (othersN c n)).length : Int) / 2 / 5) (s := (k.length : Int) + 2) (by omega)
  obtain ⟨md, j1, j2⟩ := nat_of (x := z / ((nv (othersN c n)).length : Int) / 2 / 5 / ((k.length : Int) + 2)) (s := 4) (by decide)
  have hr : ∀ b, (s ++ [b])[B.length]? = some (.list (l.map itemV)) := fun b => by rw [← hs, List.append_assoc]; exact get3
  have hpre : ∀ b, st <+: s ++ [b] := fun b => by
    rw [← hs, List.append_assoc, List.append_assoc]
    exact hBp.trans (List.prefix_append _ _)
  refine ⟨⟨av, R, S, so, l, ac, md⟩, ?_, ⟨by rw [r2, rng_len], by rw [q2, rng_len], show l.length ≤ 1000 by omega⟩⟩
  simp only [ev_bin, ev_ix, ev_and, ev_or, ev_not, ev_neg, ev_tV, ev_tand, ev_tor, ev_tnot, ev_if, ev_chain, ev_acons, ev_tup, ev_lst, ev_new, ev_call, ev_osome, ev_sl, ev_meth, ev_kget, ev_comp, ev_compN, ev_iseq, ev_range1, ev_seq, ev_set, ev_drop, ev_ret, ev_xif, ev_for, fVar, fC, aNil, oNone, xNil, xRetN, fDict, eT, bind_ite, fin3_rt, fin3_nx, fin3_ite, Option.bind_some, Option.bind_none, List.getElem?_cons_zero, List.getElem?_cons_succ, List.set_cons_zero, List.set_cons_succ, vAdd, vSub, vMul, vMod, vFdiv, vPow, vLt, vLe, vGt, vGe, vEq, vNe, vEqB, vIs, vIsnt, DD.isN, vIx_tup, vIx_lst, vIx_frz, gLen_tup, gLen_lst, gLen_frz, gTuple_tup, gTuple_lst, gList_tup, gList_lst, gInt_int, gInt_bl, vSl, wipeE, if_true, if_false, Bool.false_eq_true, decide_eq_true_eq, List.length_cons, List.length_nil, finB_0, cl_non, cl_bl, cl_int, cl_str, cl_tup, cl_lst, cls_nil, cls_cons, gLen_str, ev_zip, ev_enum, ev_text, ev_range2, ev_sub, ev_dput, walked_tup, walked_lst, walked_str, cutL_1, Bool.and_true, Bool.true_and, Bool.not_true, Bool.not_false, Nat.reduceAdd, Nat.reduceLeDiff, n_take_last (show (0 : Int) < 2 by decide) (show (2 : Int) < 1073741824 by decide), f3, n_take_last (show (0 : Int) < 5 by decide) (show (5 : Int) < 1073741824 by decide), h3, codeV, List.length_map, n_take_last (show (0 : Int) < (k.length : Int) + 2 by omega) (show (k.length : Int) + 2 < 1073741824 by omega), i1, gTuple_ref (hr _), n_take_last (show (0 : Int) < 4 by decide) (show (4 : Int) < 1073741824 by decide), j1]
  rw [hso]
  exact finB_pre (hpre _) (okD_cl (PS.okD (p := ⟨av, R, S, so, l, ac, md⟩)))
end
end K02

set_option Elab.async false
set_option linter.all false
set_option maxRecDepth 100000
set_option maxHeartbeats 4000000
namespace K02
open PySem L2 DD
theorem pay_okD2 {y : Pay} : okD 2 y.val = true := by
  cases y <;> simp only [Pay.val, okD, okDs, sV, nI, Bool.and_true] <;> decide +kernel
theorem send_okD {x : Nat × Pay} : okD 3 (sendV x) = true := by
  unfold sendV
  simp only [okD, okDs, nI, pay_okD2, Bool.and_true]
theorem crowd_okD2 {c : Option (List Nat)} : okD 2 (crowdV c) = true := by
  cases c with
  | none => rfl
  | some c => simp only [crowdV, okD, nv_okD]
theorem found_okD {q : PS} {l : List (Nat × Pay)} : okD 5 (.tup [q.val, .lst (l.map sendV)]) = true := by
  simp only [okD, okDs, PS.okD, okDs_map (n := 3) (fun x => send_okD), Bool.and_true]
theorem told_okD {a b : Bool} {c : Option (List Nat)} : okD 3 (.lst [.bl a, .bl b, crowdV c]) = true := by
  simp only [okD, okDs, crowd_okD2, Bool.and_true]
theorem first_refl {s : Store} : vNe (.tup [(.int 0), (.tup [(.int 0), (.int 0), (.int 0), (.int 0)]), (.tup [.non, .non, .non]), .non, (.tup []), (.int 0), (.int 0)]) (.tup [(.int 0), (.tup [(.int 0), (.int 0), (.int 0), (.int 0)]), (.tup [.non, .non, .non]), .non, (.tup []), (.int 0), (.int 0)]) s = some (.bl false) := vNe_refl (n := 4) (by rfl) (by omega)
theorem n_first {s : Store} : g__law_first [] s = some (.tup [(.int 0), (.tup [(.int 0), (.int 0), (.int 0), (.int 0)]), (.tup [.non, .non, .non]), .non, (.tup []), (.int 0), (.int 0)], s) := by
  rw [gd__law_first]
  simp only [b__law_first, ev_bin, ev_ix, ev_and, ev_or, ev_not, ev_neg, ev_tV, ev_tand, ev_tor, ev_tnot, ev_if, ev_chain, ev_acons, ev_tup, ev_lst, ev_new, ev_call, ev_osome, ev_sl, ev_meth, ev_kget, ev_comp, ev_compN, ev_iseq, ev_range1, ev_seq, ev_set, ev_drop, ev_ret, ev_xif, ev_for, fVar, fC, aNil, oNone, xNil, xRetN, fDict, eT, bind_ite, fin3_rt, fin3_nx, fin3_ite, Option.bind_some, Option.bind_none, List.getElem?_cons_zero, List.getElem?_cons_succ, List.set_cons_zero, List.set_cons_succ, vAdd, vSub, vMul, vMod, vFdiv, vPow, vLt, vLe, vGt, vGe, vEq, vNe, vEqB, vIs, vIsnt, DD.isN, vIx_tup, vIx_lst, vIx_frz, gLen_tup, gLen_lst, gLen_frz, gTuple_tup, gTuple_lst, gList_tup, gList_lst, gInt_int, gInt_bl, vSl, wipeE, if_true, if_false, Bool.false_eq_true, decide_eq_true_eq, List.length_cons, List.length_nil, finB_0, cl_non, cl_bl, cl_int, cl_str, cl_tup, cl_lst, cls_nil, cls_cons, gLen_str, ev_zip, ev_enum, ev_text, ev_range2, ev_sub, ev_dput, walked_tup, walked_lst, walked_str, cutL_1, Bool.and_true, Bool.true_and, Bool.not_true, Bool.not_false, Nat.reduceAdd, Nat.reduceLeDiff, Nat.zero_le]
theorem law_1 {S : List Val} (hS : ∀ w ∈ S, ∃ i, w = .int i) {j q : Nat} (hj : j < 3) {P : List (List Ins)} {k : List Ins} (hD : Drawn P) (hP2 : 2 ≤ P.length) (hP5 : P.length ≤ 5) (hk : P[q]? = some k) (o5 o6 o7 o8 o9 : Option Val) (s : Store) :
    ∃ p5 p6 p7 p8 p9 s', loopF (.one 5) b_law_1 (rng 0 40) [some (.frz S), some (.int (j : Int)), some (progsV P), some (.int (q : Int)), some (codeV k), o5, o6, o7, o8, o9] s = some (.nx, [some (.frz S), some (.int (j : Int)), some (progsV P), some (.int (q : Int)), some (codeV k), p5, p6, p7, p8, p9], s') := by
  have hq : q < P.length := (List.getElem?_eq_some_iff.mp hk).1
  have hkq : P[q] = k := (List.getElem?_eq_some_iff.mp hk).2
  have hDk := hD q hq
  rw [hkq] at hDk
  obtain ⟨env', s', g1, o5, o6, o7, o8, o9, rfl⟩ := loopF_inv (t := .one 5) (body := b_law_1)
      (fun _ env _ => ∃ (o5 o6 o7 o8 o9 : Option Val), env = [some (.frz S), some (.int (j : Int)), some (progsV P), some (.int (q : Int)), some (codeV k), o5, o6, o7, o8, o9])
      (l := rng 0 40) (k := 0) (env := [some (.frz S), some (.int (j : Int)), some (progsV P), some (.int (q : Int)), some (codeV k), o5, o6, o7, o8, o9]) (st := s) ⟨o5, o6, o7, o8, o9, rfl⟩ (by
      rintro i v env s hi ⟨o5, o6, o7, o8, o9, rfl⟩
      have hi2 : i < 40 := by
        have := (List.getElem?_eq_some_iff.mp hi).1
        rwa [rng_len] at this
      rw [rng_get hi2] at hi
      cases hi
      obtain ⟨x, hx⟩ := n_number (st := s) (k := 3 + 200 * (j : Int) + 40 * (q : Int) + (i : Int)) (.inl rfl) hS
      obtain ⟨p, hp, hpo⟩ := n_state (st := s) (k := k) (x := x) (n := q) hP2 hP5 (by omega)
      have hpb : p.box.length ≤ 4096 := by have := hpo.box; omega
      cases hcan : canN k p with
      | false =>
        refine ⟨_, [some (.frz S), some (.int (j : Int)), some (progsV P), some (.int (q : Int)), some (codeV k), some (.int (i : Int)), some p.val, some (.lst [.bl (nextI k p).isNone, .bl false, crowdV (waitsN k p)]), o8, o9], s, rfl, .inl ?_, _, _, _, _, _, rfl⟩
        have e1 := @told_okD (nextI k p).isNone false (waitsN k p)
        simp only [b_law_1, ev_bin, ev_ix, ev_and, ev_or, ev_not, ev_neg, ev_tV, ev_tand, ev_tor, ev_tnot, ev_if, ev_chain, ev_acons, ev_tup, ev_lst, ev_new, ev_call, ev_osome, ev_sl, ev_meth, ev_kget, ev_comp, ev_compN, ev_iseq, ev_range1, ev_seq, ev_set, ev_drop, ev_ret, ev_xif, ev_for, fVar, fC, aNil, oNone, xNil, xRetN, fDict, eT, bind_ite, fin3_rt, fin3_nx, fin3_ite, Option.bind_some, Option.bind_none, List.getElem?_cons_zero, List.getElem?_cons_succ, List.set_cons_zero, List.set_cons_succ, vAdd, vSub, vMul, vMod, vFdiv, vPow, vLt, vLe, vGt, vGe, vIs, vIsnt, DD.isN, vIx_tup, vIx_lst, vIx_frz, gLen_tup, gLen_lst, gLen_frz, gTuple_tup, gTuple_lst, gList_tup, gList_lst, gInt_int, gInt_bl, vSl, wipeE, if_true, if_false, Bool.false_eq_true, decide_eq_true_eq, List.length_cons, List.length_nil, finB_0, cl_non, cl_bl, cl_int, cl_str, cl_tup, cl_lst, cls_nil, cls_cons, gLen_str, ev_zip, ev_enum, ev_text, ev_range2, ev_sub, ev_dput, walked_tup, walked_lst, walked_str, cutL_1, Bool.and_true, Bool.true_and, Bool.not_true, Bool.not_false, eT, progsV, gLen_tup, List.length_map, Int.reduceNeg, Int.reducePow, Int.reduceLT, and_self, true_or, hx, hp, n_is_ended, n_can_act hpb, n_waits_for hpb, l_ended, l_can_act hpb, l_waits hpb, hcan, Nat.reduceAdd, Nat.reduceLeDiff, vNe_refl e1 (show 3 ≤ 64 by omega), atI_zero, atI_1, gIsi_bool (v := .bl _) rfl, isBl]
      | true =>
        obtain ⟨ins, hins⟩ : ∃ ins, nextI k p = some ins := by
          have := hcan
          unfold canN at this
          cases h : nextI k p with
          | none => rw [h] at this; cases this
          | some ins => exact ⟨ins, rfl⟩
        have hok : Ins.ok P.length q ins := hDk.1 ins (List.mem_of_getElem? (next_get hins))
        refine ⟨_, [some (.frz S), some (.int (j : Int)), some (progsV P), some (.int (q : Int)), some (codeV k), some (.int (i : Int)), some p.val, some (.lst [.bl (nextI k p).isNone, .bl true, crowdV (waitsN k p)]), some (.lst [(stepOf q ins p).val, .lst ((sentOf ins p).map sendV)]), some (.tup [(stepOf q ins p).val, .lst ((sentOf ins p).map sendV)])], s, rfl, .inl ?_, _, _, _, _, _, rfl⟩
        have e1 := @told_okD (nextI k p).isNone true (waitsN k p)
        have e2 := @found_okD (stepOf q ins p) (sentOf ins p)
        simp only [b_law_1, ev_bin, ev_ix, ev_and, ev_or, ev_not, ev_neg, ev_tV, ev_tand, ev_tor, ev_tnot, ev_if, ev_chain, ev_acons, ev_tup, ev_lst, ev_new, ev_call, ev_osome, ev_sl, ev_meth, ev_kget, ev_comp, ev_compN, ev_iseq, ev_range1, ev_seq, ev_set, ev_drop, ev_ret, ev_xif, ev_for, fVar, fC, aNil, oNone, xNil, xRetN, fDict, eT, bind_ite, fin3_rt, fin3_nx, fin3_ite, Option.bind_some, Option.bind_none, List.getElem?_cons_zero, List.getElem?_cons_succ, List.set_cons_zero, List.set_cons_succ, vAdd, vSub, vMul, vMod, vFdiv, vPow, vLt, vLe, vGt, vGe, vIs, vIsnt, DD.isN, vIx_tup, vIx_lst, vIx_frz, gLen_tup, gLen_lst, gLen_frz, gTuple_tup, gTuple_lst, gList_tup, gList_lst, gInt_int, gInt_bl, vSl, wipeE, if_true, if_false, Bool.false_eq_true, decide_eq_true_eq, List.length_cons, List.length_nil, finB_0, cl_non, cl_bl, cl_int, cl_str, cl_tup, cl_lst, cls_nil, cls_cons, gLen_str, ev_zip, ev_enum, ev_text, ev_range2, ev_sub, ev_dput, walked_tup, walked_lst, walked_str, cutL_1, Bool.and_true, Bool.true_and, Bool.not_true, Bool.not_false, eT, progsV, gLen_tup, List.length_map, Int.reduceNeg, Int.reducePow, Int.reduceLT, and_self, true_or, hx, hp, n_is_ended, n_can_act hpb, n_waits_for hpb, l_ended, l_can_act hpb, l_waits hpb, hcan, Nat.reduceAdd, Nat.reduceLeDiff, vNe_refl e1 (show 3 ≤ 64 by omega), atI_zero, atI_1, gIsi_bool (v := .bl _) rfl, isBl, l_act hpo hins hcan hok, n_act hpo hins hcan hok, gIsi_tup (v := .tup _) rfl, isTup, vNe_refl e2 (show 5 ≤ 64 by omega)])
  exact ⟨_, _, _, _, _, _, g1⟩
theorem law_true : ∀ ns : List Int, ns.length ≤ 63 → ∃ st, g_law [.frz (ns.map Val.int)] [] = some (.bl true, st) := by
  intro ns hn
  have hS : ∀ w ∈ ns.map Val.int, ∃ i, w = .int i := fun w hw => by
    obtain ⟨i, _, rfl⟩ := List.mem_map.mp hw
    exact ⟨i, rfl⟩
  generalize ns.map Val.int = S at hS
  rw [gd_law]
  have h40 : ∀ s, vNe (.int 40) (.int 40) s = some (.bl false) := fun s => rfl
  simp only [b_law, ev_bin, ev_ix, ev_and, ev_or, ev_not, ev_neg, ev_tV, ev_tand, ev_tor, ev_tnot, ev_if, ev_chain, ev_acons, ev_tup, ev_lst, ev_new, ev_call, ev_osome, ev_sl, ev_meth, ev_kget, ev_comp, ev_compN, ev_iseq, ev_range1, ev_seq, ev_set, ev_drop, ev_ret, ev_xif, ev_for, fVar, fC, aNil, oNone, xNil, xRetN, fDict, eT, bind_ite, fin3_rt, fin3_nx, fin3_ite, Option.bind_some, Option.bind_none, List.getElem?_cons_zero, List.getElem?_cons_succ, List.set_cons_zero, List.set_cons_succ, vAdd, vSub, vMul, vMod, vFdiv, vPow, vLt, vLe, vGt, vGe, vIs, vIsnt, DD.isN, vIx_tup, vIx_lst, vIx_frz, gLen_tup, gLen_lst, gLen_frz, gTuple_tup, gTuple_lst, gList_tup, gList_lst, gInt_int, gInt_bl, vSl, wipeE, if_true, if_false, Bool.false_eq_true, decide_eq_true_eq, List.length_cons, List.length_nil, finB_0, cl_non, cl_bl, cl_int, cl_str, cl_tup, cl_lst, cls_nil, cls_cons, gLen_str, ev_zip, ev_enum, ev_text, ev_range2, ev_sub, ev_dput, walked_tup, walked_lst, walked_str, cutL_1, Bool.and_true, Bool.true_and, Bool.not_true, Bool.not_false, n_first, first_refl, h40, Int.reduceNeg, Int.reduceLE, and_self, Int.reduceToNat]
  obtain ⟨env1, s1, g1, o2, o3, o4, o5, o6, o7, o8, o9, o1, rfl⟩ := loopF_inv (t := .one 1) (body := b_law_3)
    (fun _ env _ => ∃ (o2 o3 o4 o5 o6 o7 o8 o9 o1 : Option Val), env = [some (.frz S), o1, o2, o3, o4, o5, o6, o7, o8, o9])
    (l := rng 0 3) (k := 0) (env := [some (.frz S), none, none, none, none, none, none, none, none, none]) (st := []) ⟨none, none, none, none, none, none, none, none, none, rfl⟩ (by
    rintro j v env s hj ⟨o2, o3, o4, o5, o6, o7, o8, o9, o1, rfl⟩
    have hj2 : j < 3 := by
      have := (List.getElem?_eq_some_iff.mp hj).1
      rwa [rng_len] at this
    rw [rng_get hj2] at hj
    cases hj
    obtain ⟨x, hx⟩ := n_number (st := s) (k := (j : Int)) (.inl rfl) hS
    obtain ⟨P, hP, hD, hP2, hP5⟩ := n_programs (st := s) (x := x) (least := 2) (most := 5) (size := 10) (by decide) (by decide) (by decide) (by decide) (by decide)
    obtain ⟨env2, s2, k1, o3', o4', o5', o6', o7', o8', o9', rfl⟩ := loopF_inv (t := .one 3) (body := b_law_2)
      (fun _ env _ => ∃ (o3 o4 o5 o6 o7 o8 o9 : Option Val), env = [some (.frz S), some (.int (j : Int)), some (progsV P), o3, o4, o5, o6, o7, o8, o9])
      (l := rng 0 P.length) (k := 0) (env := [some (.frz S), some (.int (j : Int)), some (progsV P), o3, o4, o5, o6, o7, o8, o9]) (st := s) ⟨o3, o4, o5, o6, o7, o8, o9, rfl⟩ (by
      rintro q v env s hi ⟨o3, o4, o5, o6, o7, o8, o9, rfl⟩
      have hq2 : q < P.length := by
        have := (List.getElem?_eq_some_iff.mp hi).1
        rwa [rng_len] at this
      rw [rng_get hq2] at hi
      cases hi
      have hk : P[q]? = some P[q] := List.getElem?_eq_getElem hq2
      obtain ⟨p5, p6, p7, p8, p9, s3, m1⟩ := law_1 hS hj2 hD hP2 hP5 hk o5 o6 o7 o8 o9 s
      refine ⟨_, [some (.frz S), some (.int (j : Int)), some (progsV P), some (.int (q : Int)), some (codeV P[q]), p5, p6, p7, p8, p9], s3, rfl, .inl ?_, _, _, _, _, _, _, _, rfl⟩
      have hP2 : vIx (progsV P) (.int (q : Int)) s = some (codeV P[q]) := by
        show L2.atI (P.map codeV) (q : Int) = _
        rw [atI_nat', List.getElem?_map, hk]; rfl
      simp only [b_law_2, ev_bin, ev_ix, ev_and, ev_or, ev_not, ev_neg, ev_tV, ev_tand, ev_tor, ev_tnot, ev_if, ev_chain, ev_acons, ev_tup, ev_lst, ev_new, ev_call, ev_osome, ev_sl, ev_meth, ev_kget, ev_comp, ev_compN, ev_iseq, ev_range1, ev_seq, ev_set, ev_drop, ev_ret, ev_xif, ev_for, fVar, fC, aNil, oNone, xNil, xRetN, fDict, eT, bind_ite, fin3_rt, fin3_nx, fin3_ite, Option.bind_some, Option.bind_none, List.getElem?_cons_zero, List.getElem?_cons_succ, List.set_cons_zero, List.set_cons_succ, vAdd, vSub, vMul, vMod, vFdiv, vPow, vLt, vLe, vGt, vGe, vIs, vIsnt, DD.isN, vIx_tup, vIx_lst, vIx_frz, gLen_tup, gLen_lst, gLen_frz, gTuple_tup, gTuple_lst, gList_tup, gList_lst, gInt_int, gInt_bl, vSl, wipeE, if_true, if_false, Bool.false_eq_true, decide_eq_true_eq, List.length_cons, List.length_nil, finB_0, cl_non, cl_bl, cl_int, cl_str, cl_tup, cl_lst, cls_nil, cls_cons, gLen_str, ev_zip, ev_enum, ev_text, ev_range2, ev_sub, ev_dput, walked_tup, walked_lst, walked_str, cutL_1, Bool.and_true, Bool.true_and, Bool.not_true, Bool.not_false, eT, hP2, Int.reduceNeg, Int.reduceLE, and_self, Int.reduceToNat]
      exact m1)
    refine ⟨_, [some (.frz S), some (.int (j : Int)), some (progsV P), o3', o4', o5', o6', o7', o8', o9'], s2, rfl, .inl ?_, _, _, _, _, _, _, _, _, _, rfl⟩
    have hl : gLen [progsV P] s = some (.int (P.length : Int), s) := by
      show some (Val.int ((P.map codeV).length : Int), s) = _
      rw [List.length_map]
    simp only [b_law_3, ev_bin, ev_ix, ev_and, ev_or, ev_not, ev_neg, ev_tV, ev_tand, ev_tor, ev_tnot, ev_if, ev_chain, ev_acons, ev_tup, ev_lst, ev_new, ev_call, ev_osome, ev_sl, ev_meth, ev_kget, ev_comp, ev_compN, ev_iseq, ev_range1, ev_seq, ev_set, ev_drop, ev_ret, ev_xif, ev_for, fVar, fC, aNil, oNone, xNil, xRetN, fDict, eT, bind_ite, fin3_rt, fin3_nx, fin3_ite, Option.bind_some, Option.bind_none, List.getElem?_cons_zero, List.getElem?_cons_succ, List.set_cons_zero, List.set_cons_succ, vAdd, vSub, vMul, vMod, vFdiv, vPow, vLt, vLe, vGt, vGe, vIs, vIsnt, DD.isN, vIx_tup, vIx_lst, vIx_frz, gLen_tup, gLen_lst, gLen_frz, gTuple_tup, gTuple_lst, gList_tup, gList_lst, gInt_int, gInt_bl, vSl, wipeE, if_true, if_false, Bool.false_eq_true, decide_eq_true_eq, List.length_cons, List.length_nil, finB_0, cl_non, cl_bl, cl_int, cl_str, cl_tup, cl_lst, cls_nil, cls_cons, gLen_str, ev_zip, ev_enum, ev_text, ev_range2, ev_sub, ev_dput, walked_tup, walked_lst, walked_str, cutL_1, Bool.and_true, Bool.true_and, Bool.not_true, Bool.not_false, eT, hx, show g__law_programs [.int x, .int 2, .int 5, .int 10] s = some (progsV P, s) from hP, hl]
    rw [if_pos ⟨by omega, by omega⟩]
    exact k1)
  rw [g1]
  exact ⟨_, finB_1 (st := []) (t := s1) cl_bl⟩
end K02

namespace K02
open PySem PySem.Spec PyProof.Rows L2 DD
theorem all_mk {l : PySem.W.OpenLaw} {w : World} {K : PySem.W.Frag} {h : Heap} {mg : Str → Option Value} {fa : Addr} (X : K.In h) (G : h.Ns mainGlobals mg) (hfa : mg "law" = some (.ref fa))
    (hg : ∀ ns : List Int, ns.length ≤ 63 → ∃ st, g_law [.frz (ns.map Val.int)] [] = some (.bl true, st))
    {f0 : Addr} {od0 an0 : Option Addr} {sl0 : Array (Option Value)} {oc0 kV0 dc0 pm0 cd0 ct0 : Value}
    {f1 : Addr} {od1 an1 : Option Addr} {sl1 : Array (Option Value)} {oc1 kV1 dc1 pm1 cd1 ct1 : Value}
    {f2 : Addr} {od2 an2 : Option Addr} {sl2 : Array (Option Value)} {oc2 kV2 dc2 pm2 cd2 ct2 : Value}
    {f3 : Addr} {od3 an3 : Option Addr} {sl3 : Array (Option Value)} {oc3 kV3 dc3 pm3 cd3 ct3 : Value}
    {f4 : Addr} {od4 an4 : Option Addr} {sl4 : Array (Option Value)} {oc4 kV4 dc4 pm4 cd4 ct4 : Value}
    {f5 : Addr} {od5 an5 : Option Addr} {sl5 : Array (Option Value)} {oc5 kV5 dc5 pm5 cd5 ct5 : Value}
    {f6 : Addr} {od6 an6 : Option Addr} {sl6 : Array (Option Value)} {oc6 kV6 dc6 pm6 cd6 ct6 : Value}
    {f7 : Addr} {od7 an7 : Option Addr} {sl7 : Array (Option Value)} {oc7 kV7 dc7 pm7 cd7 ct7 : Value}
    {f8 : Addr} {od8 an8 : Option Addr} {sl8 : Array (Option Value)} {oc8 kV8 dc8 pm8 cd8 ct8 : Value}
    {f9 : Addr} {od9 an9 : Option Addr} {sl9 : Array (Option Value)} {oc9 kV9 dc9 pm9 cd9 ct9 : Value}
    {f10 : Addr} {od10 an10 : Option Addr} {sl10 : Array (Option Value)} {oc10 kV10 dc10 pm10 cd10 ct10 : Value}
    {f11 : Addr} {od11 an11 : Option Addr} {sl11 : Array (Option Value)} {oc11 kV11 dc11 pm11 cd11 ct11 : Value}
    {f12 : Addr} {od12 an12 : Option Addr} {sl12 : Array (Option Value)} {oc12 kV12 dc12 pm12 cd12 ct12 : Value}
    {f13 : Addr} {od13 an13 : Option Addr} {sl13 : Array (Option Value)} {oc13 kV13 dc13 pm13 cd13 ct13 : Value}
    {f14 : Addr} {od14 an14 : Option Addr} {sl14 : Array (Option Value)} {oc14 kV14 dc14 pm14 cd14 ct14 : Value}
    {f15 : Addr} {od15 an15 : Option Addr} {sl15 : Array (Option Value)} {oc15 kV15 dc15 pm15 cd15 ct15 : Value}
    {f16 : Addr} {od16 an16 : Option Addr} {sl16 : Array (Option Value)} {oc16 kV16 dc16 pm16 cd16 ct16 : Value}
    {f17 : Addr} {od17 an17 : Option Addr} {sl17 : Array (Option Value)} {oc17 kV17 dc17 pm17 cd17 ct17 : Value}
    {f18 : Addr} {od18 an18 : Option Addr} {sl18 : Array (Option Value)} {oc18 kV18 dc18 pm18 cd18 ct18 : Value}
    {f19 : Addr} {od19 an19 : Option Addr} {sl19 : Array (Option Value)} {oc19 kV19 dc19 pm19 cd19 ct19 : Value}
    {f20 : Addr} {od20 an20 : Option Addr} {sl20 : Array (Option Value)} {oc20 kV20 dc20 pm20 cd20 ct20 : Value}
    {f21 : Addr} {od21 an21 : Option Addr} {sl21 : Array (Option Value)} {oc21 kV21 dc21 pm21 cd21 ct21 : Value}
    {f22 : Addr} {od22 an22 : Option Addr} {sl22 : Array (Option Value)} {oc22 kV22 dc22 pm22 cd22 ct22 : Value}
    {f23 : Addr} {od23 an23 : Option Addr} {sl23 : Array (Option Value)} {oc23 kV23 dc23 pm23 cd23 ct23 : Value}
    {f24 : Addr} {od24 an24 : Option Addr} {sl24 : Array (Option Value)} {oc24 kV24 dc24 pm24 cd24 ct24 : Value}
    {f25 : Addr} {od25 an25 : Option Addr} {sl25 : Array (Option Value)} {oc25 kV25 dc25 pm25 cd25 ct25 : Value}
    {f26 : Addr} {od26 an26 : Option Addr} {sl26 : Array (Option Value)} {oc26 kV26 dc26 pm26 cd26 ct26 : Value}
    {f27 : Addr} {od27 an27 : Option Addr} {sl27 : Array (Option Value)} {oc27 kV27 dc27 pm27 cd27 ct27 : Value}
    {f28 : Addr} {od28 an28 : Option Addr} {sl28 : Array (Option Value)} {oc28 kV28 dc28 pm28 cd28 ct28 : Value}
    {tk_FUEL : Tok}
    {tk_MODULUS : Tok}
    {ad_FIRST_1 : Addr} {its_FIRST_1 : Array Value} {n_FIRST_1 : Nat}
    {tq_FIRST_2 : Tok}
    {ad_FIRST_3 : Addr} {its_FIRST_3 : Array Value} {n_FIRST_3 : Nat}
    {tq_FIRST_4 : Tok}
    {tq_FIRST_5 : Tok}
    {tq_FIRST_6 : Tok}
    {tq_FIRST_7 : Tok}
    {ad_FIRST_8 : Addr} {its_FIRST_8 : Array Value} {n_FIRST_8 : Nat}
    {ad_FIRST_9 : Addr} {its_FIRST_9 : Array Value} {n_FIRST_9 : Nat}
    {tq_FIRST_10 : Tok}
    {tq_FIRST_11 : Tok}
    (a0 : PySem.W.nsIn K mainGlobals "_law_take" = some (some (.ref f0)))
    (l0 : K.lookup f0 = some ⟨oc0, od0, .func (PySem.W.fnOf "_law_take" "_law_take" (defArgs s__law_take) (defBody s__law_take) (defScope s__law_take) .none kV0 dc0 pm0 an0 cd0 ct0), sl0⟩)
    (cc0 : PySem.W.codeIn K cd0 "_law_take" = true) (k0 : PySem.W.keepIn K (.ref f0) = true)
    (a1 : PySem.W.nsIn K mainGlobals "_law_crowd" = some (some (.ref f1)))
    (l1 : K.lookup f1 = some ⟨oc1, od1, .func (PySem.W.fnOf "_law_crowd" "_law_crowd" (defArgs s__law_crowd) (defBody s__law_crowd) (defScope s__law_crowd) .none kV1 dc1 pm1 an1 cd1 ct1), sl1⟩)
    (cc1 : PySem.W.codeIn K cd1 "_law_crowd" = true) (k1 : PySem.W.keepIn K (.ref f1) = true)
    (a2 : PySem.W.nsIn K mainGlobals "_law_instruction" = some (some (.ref f2)))
    (l2 : K.lookup f2 = some ⟨oc2, od2, .func (PySem.W.fnOf "_law_instruction" "_law_instruction" (defArgs s__law_instruction) (defBody s__law_instruction) (defScope s__law_instruction) .none kV2 dc2 pm2 an2 cd2 ct2), sl2⟩)
    (cc2 : PySem.W.codeIn K cd2 "_law_instruction" = true) (k2 : PySem.W.keepIn K (.ref f2) = true)
    (a3 : PySem.W.nsIn K mainGlobals "_law_number" = some (some (.ref f3)))
    (l3 : K.lookup f3 = some ⟨oc3, od3, .func (PySem.W.fnOf "_law_number" "_law_number" (defArgs s__law_number) (defBody s__law_number) (defScope s__law_number) .none kV3 dc3 pm3 an3 cd3 ct3), sl3⟩)
    (cc3 : PySem.W.codeIn K cd3 "_law_number" = true) (k3 : PySem.W.keepIn K (.ref f3) = true)
    (a4 : PySem.W.nsIn K mainGlobals "_law_code" = some (some (.ref f4)))
    (l4 : K.lookup f4 = some ⟨oc4, od4, .func (PySem.W.fnOf "_law_code" "_law_code" (defArgs s__law_code) (defBody s__law_code) (defScope s__law_code) .none kV4 dc4 pm4 an4 cd4 ct4), sl4⟩)
    (cc4 : PySem.W.codeIn K cd4 "_law_code" = true) (k4 : PySem.W.keepIn K (.ref f4) = true)
    (a5 : PySem.W.nsIn K mainGlobals "_law_programs" = some (some (.ref f5)))
    (l5 : K.lookup f5 = some ⟨oc5, od5, .func (PySem.W.fnOf "_law_programs" "_law_programs" (defArgs s__law_programs) (defBody s__law_programs) (defScope s__law_programs) .none kV5 dc5 pm5 an5 cd5 ct5), sl5⟩)
    (cc5 : PySem.W.codeIn K cd5 "_law_programs" = true) (k5 : PySem.W.keepIn K (.ref f5) = true)
    (a6 : PySem.W.nsIn K mainGlobals "_law_first" = some (some (.ref f6)))
    (l6 : K.lookup f6 = some ⟨oc6, od6, .func (PySem.W.fnOf "_law_first" "_law_first" (defArgs s__law_first) (defBody s__law_first) (defScope s__law_first) .none kV6 dc6 pm6 an6 cd6 ct6), sl6⟩)
    (cc6 : PySem.W.codeIn K cd6 "_law_first" = true) (k6 : PySem.W.keepIn K (.ref f6) = true)
    (a7 : PySem.W.nsIn K mainGlobals "_law_payload" = some (some (.ref f7)))
    (l7 : K.lookup f7 = some ⟨oc7, od7, .func (PySem.W.fnOf "_law_payload" "_law_payload" (defArgs s__law_payload) (defBody s__law_payload) (defScope s__law_payload) .none kV7 dc7 pm7 an7 cd7 ct7), sl7⟩)
    (cc7 : PySem.W.codeIn K cd7 "_law_payload" = true) (k7 : PySem.W.keepIn K (.ref f7) = true)
    (a8 : PySem.W.nsIn K mainGlobals "_law_state" = some (some (.ref f8)))
    (l8 : K.lookup f8 = some ⟨oc8, od8, .func (PySem.W.fnOf "_law_state" "_law_state" (defArgs s__law_state) (defBody s__law_state) (defScope s__law_state) .none kV8 dc8 pm8 an8 cd8 ct8), sl8⟩)
    (cc8 : PySem.W.codeIn K cd8 "_law_state" = true) (k8 : PySem.W.keepIn K (.ref f8) = true)
    (a9 : PySem.W.nsIn K mainGlobals "is_ended" = some (some (.ref f9)))
    (l9 : K.lookup f9 = some ⟨oc9, od9, .func (PySem.W.fnOf "is_ended" "is_ended" (defArgs s_is_ended) (defBody s_is_ended) (defScope s_is_ended) .none kV9 dc9 pm9 an9 cd9 ct9), sl9⟩)
    (cc9 : PySem.W.codeIn K cd9 "is_ended" = true) (k9 : PySem.W.keepIn K (.ref f9) = true)
    (a10 : PySem.W.nsIn K mainGlobals "crowd_of" = some (some (.ref f10)))
    (l10 : K.lookup f10 = some ⟨oc10, od10, .func (PySem.W.fnOf "crowd_of" "crowd_of" (defArgs s_crowd_of) (defBody s_crowd_of) (defScope s_crowd_of) .none kV10 dc10 pm10 an10 cd10 ct10), sl10⟩)
    (cc10 : PySem.W.codeIn K cd10 "crowd_of" = true) (k10 : PySem.W.keepIn K (.ref f10) = true)
    (a11 : PySem.W.nsIn K mainGlobals "first_item" = some (some (.ref f11)))
    (l11 : K.lookup f11 = some ⟨oc11, od11, .func (PySem.W.fnOf "first_item" "first_item" (defArgs s_first_item) (defBody s_first_item) (defScope s_first_item) .none kV11 dc11 pm11 an11 cd11 ct11), sl11⟩)
    (cc11 : PySem.W.codeIn K cd11 "first_item" = true) (k11 : PySem.W.keepIn K (.ref f11) = true)
    (a12 : PySem.W.nsIn K mainGlobals "waits_for" = some (some (.ref f12)))
    (l12 : K.lookup f12 = some ⟨oc12, od12, .func (PySem.W.fnOf "waits_for" "waits_for" (defArgs s_waits_for) (defBody s_waits_for) (defScope s_waits_for) .none kV12 dc12 pm12 an12 cd12 ct12), sl12⟩)
    (cc12 : PySem.W.codeIn K cd12 "waits_for" = true) (k12 : PySem.W.keepIn K (.ref f12) = true)
    (a13 : PySem.W.nsIn K mainGlobals "can_act" = some (some (.ref f13)))
    (l13 : K.lookup f13 = some ⟨oc13, od13, .func (PySem.W.fnOf "can_act" "can_act" (defArgs s_can_act) (defBody s_can_act) (defScope s_can_act) .none kV13 dc13 pm13 an13 cd13 ct13), sl13⟩)
    (cc13 : PySem.W.codeIn K cd13 "can_act" = true) (k13 : PySem.W.keepIn K (.ref f13) = true)
    (a14 : PySem.W.nsIn K mainGlobals "_law_sent" = some (some (.ref f14)))
    (l14 : K.lookup f14 = some ⟨oc14, od14, .func (PySem.W.fnOf "_law_sent" "_law_sent" (defArgs s__law_sent) (defBody s__law_sent) (defScope s__law_sent) .none kV14 dc14 pm14 an14 cd14 ct14), sl14⟩)
    (cc14 : PySem.W.codeIn K cd14 "_law_sent" = true) (k14 : PySem.W.keepIn K (.ref f14) = true)
    (a15 : PySem.W.nsIn K mainGlobals "_law_put" = some (some (.ref f15)))
    (l15 : K.lookup f15 = some ⟨oc15, od15, .func (PySem.W.fnOf "_law_put" "_law_put" (defArgs s__law_put) (defBody s__law_put) (defScope s__law_put) .none kV15 dc15 pm15 an15 cd15 ct15), sl15⟩)
    (cc15 : PySem.W.codeIn K cd15 "_law_put" = true) (k15 : PySem.W.keepIn K (.ref f15) = true)
    (a16 : PySem.W.nsIn K mainGlobals "_law_first_of" = some (some (.ref f16)))
    (l16 : K.lookup f16 = some ⟨oc16, od16, .func (PySem.W.fnOf "_law_first_of" "_law_first_of" (defArgs s__law_first_of) (defBody s__law_first_of) (defScope s__law_first_of) .none kV16 dc16 pm16 an16 cd16 ct16), sl16⟩)
    (cc16 : PySem.W.codeIn K cd16 "_law_first_of" = true) (k16 : PySem.W.keepIn K (.ref f16) = true)
    (a17 : PySem.W.nsIn K mainGlobals "_law_act" = some (some (.ref f17)))
    (l17 : K.lookup f17 = some ⟨oc17, od17, .func (PySem.W.fnOf "_law_act" "_law_act" (defArgs s__law_act) (defBody s__law_act) (defScope s__law_act) .none kV17 dc17 pm17 an17 cd17 ct17), sl17⟩)
    (cc17 : PySem.W.codeIn K cd17 "_law_act" = true) (k17 : PySem.W.keepIn K (.ref f17) = true)
    (a18 : PySem.W.nsIn K mainGlobals "sent_by" = some (some (.ref f18)))
    (l18 : K.lookup f18 = some ⟨oc18, od18, .func (PySem.W.fnOf "sent_by" "sent_by" (defArgs s_sent_by) (defBody s_sent_by) (defScope s_sent_by) .none kV18 dc18 pm18 an18 cd18 ct18), sl18⟩)
    (cc18 : PySem.W.codeIn K cd18 "sent_by" = true) (k18 : PySem.W.keepIn K (.ref f18) = true)
    (a19 : PySem.W.nsIn K mainGlobals "put" = some (some (.ref f19)))
    (l19 : K.lookup f19 = some ⟨oc19, od19, .func (PySem.W.fnOf "put" "put" (defArgs s_put) (defBody s_put) (defScope s_put) .none kV19 dc19 pm19 an19 cd19 ct19), sl19⟩)
    (cc19 : PySem.W.codeIn K cd19 "put" = true) (k19 : PySem.W.keepIn K (.ref f19) = true)
    (a20 : PySem.W.nsIn K mainGlobals "act_on_registers" = some (some (.ref f20)))
    (l20 : K.lookup f20 = some ⟨oc20, od20, .func (PySem.W.fnOf "act_on_registers" "act_on_registers" (defArgs s_act_on_registers) (defBody s_act_on_registers) (defScope s_act_on_registers) .none kV20 dc20 pm20 an20 cd20 ct20), sl20⟩)
    (cc20 : PySem.W.codeIn K cd20 "act_on_registers" = true) (k20 : PySem.W.keepIn K (.ref f20) = true)
    (a21 : PySem.W.nsIn K mainGlobals "act_on_slots" = some (some (.ref f21)))
    (l21 : K.lookup f21 = some ⟨oc21, od21, .func (PySem.W.fnOf "act_on_slots" "act_on_slots" (defArgs s_act_on_slots) (defBody s_act_on_slots) (defScope s_act_on_slots) .none kV21 dc21 pm21 an21 cd21 ct21), sl21⟩)
    (cc21 : PySem.W.codeIn K cd21 "act_on_slots" = true) (k21 : PySem.W.keepIn K (.ref f21) = true)
    (a22 : PySem.W.nsIn K mainGlobals "taken" = some (some (.ref f22)))
    (l22 : K.lookup f22 = some ⟨oc22, od22, .func (PySem.W.fnOf "taken" "taken" (defArgs s_taken) (defBody s_taken) (defScope s_taken) .none kV22 dc22 pm22 an22 cd22 ct22), sl22⟩)
    (cc22 : PySem.W.codeIn K cd22 "taken" = true) (k22 : PySem.W.keepIn K (.ref f22) = true)
    (a23 : PySem.W.nsIn K mainGlobals "act_of_taking" = some (some (.ref f23)))
    (l23 : K.lookup f23 = some ⟨oc23, od23, .func (PySem.W.fnOf "act_of_taking" "act_of_taking" (defArgs s_act_of_taking) (defBody s_act_of_taking) (defScope s_act_of_taking) .none kV23 dc23 pm23 an23 cd23 ct23), sl23⟩)
    (cc23 : PySem.W.codeIn K cd23 "act_of_taking" = true) (k23 : PySem.W.keepIn K (.ref f23) = true)
    (a24 : PySem.W.nsIn K mainGlobals "act" = some (some (.ref f24)))
    (l24 : K.lookup f24 = some ⟨oc24, od24, .func (PySem.W.fnOf "act" "act" (defArgs s_act) (defBody s_act) (defScope s_act) .none kV24 dc24 pm24 an24 cd24 ct24), sl24⟩)
    (cc24 : PySem.W.codeIn K cd24 "act" = true) (k24 : PySem.W.keepIn K (.ref f24) = true)
    (a25 : PySem.W.nsIn K mainGlobals "_law_ended" = some (some (.ref f25)))
    (l25 : K.lookup f25 = some ⟨oc25, od25, .func (PySem.W.fnOf "_law_ended" "_law_ended" (defArgs s__law_ended) (defBody s__law_ended) (defScope s__law_ended) .none kV25 dc25 pm25 an25 cd25 ct25), sl25⟩)
    (cc25 : PySem.W.codeIn K cd25 "_law_ended" = true) (k25 : PySem.W.keepIn K (.ref f25) = true)
    (a26 : PySem.W.nsIn K mainGlobals "_law_waits" = some (some (.ref f26)))
    (l26 : K.lookup f26 = some ⟨oc26, od26, .func (PySem.W.fnOf "_law_waits" "_law_waits" (defArgs s__law_waits) (defBody s__law_waits) (defScope s__law_waits) .none kV26 dc26 pm26 an26 cd26 ct26), sl26⟩)
    (cc26 : PySem.W.codeIn K cd26 "_law_waits" = true) (k26 : PySem.W.keepIn K (.ref f26) = true)
    (a27 : PySem.W.nsIn K mainGlobals "_law_can_act" = some (some (.ref f27)))
    (l27 : K.lookup f27 = some ⟨oc27, od27, .func (PySem.W.fnOf "_law_can_act" "_law_can_act" (defArgs s__law_can_act) (defBody s__law_can_act) (defScope s__law_can_act) .none kV27 dc27 pm27 an27 cd27 ct27), sl27⟩)
    (cc27 : PySem.W.codeIn K cd27 "_law_can_act" = true) (k27 : PySem.W.keepIn K (.ref f27) = true)
    (a28 : PySem.W.nsIn K mainGlobals "law" = some (some (.ref f28)))
    (l28 : K.lookup f28 = some ⟨oc28, od28, .func (PySem.W.fnOf "law" "law" (defArgs s_law) (defBody s_law) (defScope s_law) .none kV28 dc28 pm28 an28 cd28 ct28), sl28⟩)
    (cc28 : PySem.W.codeIn K cd28 "law" = true) (k28 : PySem.W.keepIn K (.ref f28) = true)
    (z_int : PySem.W.nsIn K mainGlobals "int" = some none)
    (z_range : PySem.W.nsIn K mainGlobals "range" = some none)
    (z_len : PySem.W.nsIn K mainGlobals "len" = some none)
    (z_tuple : PySem.W.nsIn K mainGlobals "tuple" = some none)
    (z_enumerate : PySem.W.nsIn K mainGlobals "enumerate" = some none)
    (z_bool : PySem.W.nsIn K mainGlobals "bool" = some none)
    (z_isinstance : PySem.W.nsIn K mainGlobals "isinstance" = some none)
    (c_FUEL : PySem.W.nsIn K mainGlobals "FUEL" = some (some (.int 40 tk_FUEL)))
    (c_MODULUS : PySem.W.nsIn K mainGlobals "MODULUS" = some (some (.int 1000 tk_MODULUS)))
    (va_FIRST : PySem.W.nsIn K mainGlobals "FIRST" = some (some (.ref ad_FIRST_1)))
    (tl_FIRST_1 : K.lookup ad_FIRST_1 = some ⟨.type "tuple", none, .seq its_FIRST_1 n_FIRST_1, #[]⟩)
    (te_FIRST_1 : its_FIRST_1 = #[(.int 0 tq_FIRST_2), (.ref ad_FIRST_3), (.ref ad_FIRST_8), .none, (.ref ad_FIRST_9), (.int 0 tq_FIRST_10), (.int 0 tq_FIRST_11)])
    (tl_FIRST_3 : K.lookup ad_FIRST_3 = some ⟨.type "tuple", none, .seq its_FIRST_3 n_FIRST_3, #[]⟩)
    (te_FIRST_3 : its_FIRST_3 = #[(.int 0 tq_FIRST_4), (.int 0 tq_FIRST_5), (.int 0 tq_FIRST_6), (.int 0 tq_FIRST_7)])
    (tl_FIRST_8 : K.lookup ad_FIRST_8 = some ⟨.type "tuple", none, .seq its_FIRST_8 n_FIRST_8, #[]⟩)
    (te_FIRST_8 : its_FIRST_8 = #[.none, .none, .none])
    (tl_FIRST_9 : K.lookup ad_FIRST_9 = some ⟨.type "tuple", none, .seq its_FIRST_9 n_FIRST_9, #[]⟩)
    (te_FIRST_9 : its_FIRST_9 = #[]) :
    ∃ fd : FuncData, (∀ (s : Shared) (v : Value), BindsTo s fd ⟨[v], []⟩ [("script", v)]) ∧ ∀ base : Heap, K.In base → base.Ns mainGlobals mg → FnOk l.prog w K mg base CX0 6 fa fd ["script"] (spL K) := by
  have e := hfa.symm.trans (PySem.W.mg_of X G a28)
  cases e
  have F0 := fun_mk (st := s__law_take) l0 cc0 k0
  have F1 := fun_mk (st := s__law_crowd) l1 cc1 k1
  have F2 := fun_mk (st := s__law_instruction) l2 cc2 k2
  have F3 := fun_mk (st := s__law_number) l3 cc3 k3
  have F4 := fun_mk (st := s__law_code) l4 cc4 k4
  have F5 := fun_mk (st := s__law_programs) l5 cc5 k5
  have F6 := fun_mk (st := s__law_first) l6 cc6 k6
  have F7 := fun_mk (st := s__law_payload) l7 cc7 k7
  have F8 := fun_mk (st := s__law_state) l8 cc8 k8
  have F9 := fun_mk (st := s_is_ended) l9 cc9 k9
  have F10 := fun_mk (st := s_crowd_of) l10 cc10 k10
  have F11 := fun_mk (st := s_first_item) l11 cc11 k11
  have F12 := fun_mk (st := s_waits_for) l12 cc12 k12
  have F13 := fun_mk (st := s_can_act) l13 cc13 k13
  have F14 := fun_mk (st := s__law_sent) l14 cc14 k14
  have F15 := fun_mk (st := s__law_put) l15 cc15 k15
  have F16 := fun_mk (st := s__law_first_of) l16 cc16 k16
  have F17 := fun_mk (st := s__law_act) l17 cc17 k17
  have F18 := fun_mk (st := s_sent_by) l18 cc18 k18
  have F19 := fun_mk (st := s_put) l19 cc19 k19
  have F20 := fun_mk (st := s_act_on_registers) l20 cc20 k20
  have F21 := fun_mk (st := s_act_on_slots) l21 cc21 k21
  have F22 := fun_mk (st := s_taken) l22 cc22 k22
  have F23 := fun_mk (st := s_act_of_taking) l23 cc23 k23
  have F24 := fun_mk (st := s_act) l24 cc24 k24
  have F25 := fun_mk (st := s__law_ended) l25 cc25 k25
  have F26 := fun_mk (st := s__law_waits) l26 cc26 k26
  have F27 := fun_mk (st := s__law_can_act) l27 cc27 k27
  have F28 := fun_mk (st := s_law) l28 cc28 k28
  have mz_int := PySem.W.mg_none_of X G z_int
  have mz_range := PySem.W.mg_none_of X G z_range
  have mz_len := PySem.W.mg_none_of X G z_len
  have mz_tuple := PySem.W.mg_none_of X G z_tuple
  have mz_enumerate := PySem.W.mg_none_of X G z_enumerate
  have mz_bool := PySem.W.mg_none_of X G z_bool
  have mz_isinstance := PySem.W.mg_none_of X G z_isinstance
  have mc_FUEL : ∃ t, mg "FUEL" = some (.int 40 t) := ⟨_, PySem.W.mg_of X G c_FUEL⟩
  have mc_MODULUS : ∃ t, mg "MODULUS" = some (.int 1000 t) := ⟨_, PySem.W.mg_of X G c_MODULUS⟩
  have mv_FIRST : HasC K mg "FIRST" (.tup [(.int 0), (.tup [(.int 0), (.int 0), (.int 0), (.int 0)]), (.tup [.non, .non, .non]), .non, (.tup []), (.int 0), (.int 0)]) := ⟨_, PySem.W.mg_of X G va_FIRST, (con_tup tl_FIRST_1 rfl rfl (by rw [te_FIRST_1]; exact Nat.le_of_ble_eq_true rfl) (by rw [te_FIRST_1]; exact (cons_cons con_int (cons_cons (con_tup tl_FIRST_3 rfl rfl (by rw [te_FIRST_3]; exact Nat.le_of_ble_eq_true rfl) (by rw [te_FIRST_3]; exact (cons_cons con_int (cons_cons con_int (cons_cons con_int (cons_cons con_int cons_nil)))))) (cons_cons (con_tup tl_FIRST_8 rfl rfl (by rw [te_FIRST_8]; exact Nat.le_of_ble_eq_true rfl) (by rw [te_FIRST_8]; exact (cons_cons con_non (cons_cons con_non (cons_cons con_non cons_nil))))) (cons_cons con_non (cons_cons (con_tup tl_FIRST_9 rfl rfl (by rw [te_FIRST_9]; exact Nat.le_of_ble_eq_true rfl) (by rw [te_FIRST_9]; exact cons_nil)) (cons_cons con_int (cons_cons con_int cons_nil)))))))))⟩
  refine ⟨PySem.W.fnOf "law" "law" (defArgs s_law) (defBody s_law) (defScope s_law) .none kV28 dc28 pm28 an28 cd28 ct28, fun s v => .of_eq rfl, fun base _ _ => ?_⟩
  have o0 := own__law_take (P := l.prog) (w := w) (base := base) F0 (PySem.W.mg_of X G a0) mz_int
  have o1 := own__law_crowd (P := l.prog) (w := w) (base := base) F1 (PySem.W.mg_of X G a1) mz_range o0 mz_len mz_tuple
  have o2 := own__law_instruction (P := l.prog) (w := w) (base := base) F2 (PySem.W.mg_of X G a2) o0 mz_range mz_len o1
  have o3 := own__law_number (P := l.prog) (w := w) (base := base) F3 (PySem.W.mg_of X G a3) mz_len mz_int
  have o4 := own__law_code (P := l.prog) (w := w) (base := base) F4 (PySem.W.mg_of X G a4) o0 mz_range o2 o3 mz_tuple
  have o5 := own__law_programs (P := l.prog) (w := w) (base := base) F5 (PySem.W.mg_of X G a5) o0 mz_range o4 o3 mz_tuple
  have o6 := own__law_first (P := l.prog) (w := w) (base := base) F6 (PySem.W.mg_of X G a6) 
  have o7 := own__law_payload (P := l.prog) (w := w) (base := base) F7 (PySem.W.mg_of X G a7) o0
  have o8 := own__law_state (P := l.prog) (w := w) (base := base) F8 (PySem.W.mg_of X G a8) mz_range o0 mz_tuple o3 mz_len o7
  have o9 := own_is_ended (P := l.prog) (w := w) (base := base) F9 (PySem.W.mg_of X G a9) mz_len mc_FUEL
  have o10 := own_crowd_of (P := l.prog) (w := w) (base := base) F10 (PySem.W.mg_of X G a10) o9
  have o11 := own_first_item (P := l.prog) (w := w) (base := base) F11 (PySem.W.mg_of X G a11) mz_enumerate
  have o12 := own_waits_for (P := l.prog) (w := w) (base := base) F12 (PySem.W.mg_of X G a12) o10 o11
  have o13 := own_can_act (P := l.prog) (w := w) (base := base) F13 (PySem.W.mg_of X G a13) o9 o12
  have o14 := own__law_sent (P := l.prog) (w := w) (base := base) F14 (PySem.W.mg_of X G a14) 
  have o15 := own__law_put (P := l.prog) (w := w) (base := base) F15 (PySem.W.mg_of X G a15) 
  have o16 := own__law_first_of (P := l.prog) (w := w) (base := base) F16 (PySem.W.mg_of X G a16) mz_len mz_range
  have o17 := own__law_act (P := l.prog) (w := w) (base := base) F17 (PySem.W.mg_of X G a17) o14 o15 mz_int o16
  have o18 := own_sent_by (P := l.prog) (w := w) (base := base) F18 (PySem.W.mg_of X G a18) 
  have o19 := own_put (P := l.prog) (w := w) (base := base) F19 (PySem.W.mg_of X G a19) 
  have o20 := own_act_on_registers (P := l.prog) (w := w) (base := base) F20 (PySem.W.mg_of X G a20) o19 mc_MODULUS
  have o21 := own_act_on_slots (P := l.prog) (w := w) (base := base) F21 (PySem.W.mg_of X G a21) o19
  have o22 := own_taken (P := l.prog) (w := w) (base := base) F22 (PySem.W.mg_of X G a22) o11
  have o23 := own_act_of_taking (P := l.prog) (w := w) (base := base) F23 (PySem.W.mg_of X G a23) o22 o19
  have o24 := own_act (P := l.prog) (w := w) (base := base) F24 (PySem.W.mg_of X G a24) o18 o20 o21 o23
  have o25 := own__law_ended (P := l.prog) (w := w) (base := base) F25 (PySem.W.mg_of X G a25) mz_len
  have o26 := own__law_waits (P := l.prog) (w := w) (base := base) F26 (PySem.W.mg_of X G a26) o25 o16
  have o27 := own__law_can_act (P := l.prog) (w := w) (base := base) F27 (PySem.W.mg_of X G a27) o25 o26
  exact (fn_ok (P := l.prog) (w := w) (mg := mg) (base := base) F28 sc_law (ss_law mv_FIRST o6 mc_FUEL mz_range o5 o3 mz_len o8 o9 o13 o12 o25 o27 o26 mz_bool mz_isinstance o17 o24 mz_tuple) (fun _ _ _ h => gB_len _ _ _ h) (fun _ _ _ _ h => gB_gives _ _ _ _ h)).imp fun vs H Q E h => spL_imp hg h
end K02
open PySem PySem.W PyProof.Rows
set_option maxHeartbeats 0 in
theorem PySem.Challenge.cw_whatwas_k02_acts_of_processes_holds : PySem.Challenge.rw_whatwas_k02_acts_of_processes.Holds := by
  w_on; o_law; k_head; (case hw => w_witness2)
  k_fill
  refine L2.walk_of (l := PySem.Challenge.rw_whatwas_k02_acts_of_processes) (n := 63) (k := 6) (x := "script") (CX := fun _ => L2.CX0) (sp := fun w => DD.spL _) rfl (by decide) rfl ⟨rfl, by decide, by decide⟩ (fun w h Y => PySem.W.kIn_of Y) ?F (fun _ _ a ns hl hO hS => ⟨a, ns, rfl, hO, hS, hl, fun _ => rfl⟩) (fun _ _ _ _ _ h => h)
  case F =>
    intro w mg fa h KX G hmg
    refine' K02.all_mk KX G hmg K02.law_true ?a0 ?l0 ?cc0 ?k0 ?a1 ?l1 ?cc1 ?k1 ?a2 ?l2 ?cc2 ?k2 ?a3 ?l3 ?cc3 ?k3 ?a4 ?l4 ?cc4 ?k4 ?a5 ?l5 ?cc5 ?k5 ?a6 ?l6 ?cc6 ?k6 ?a7 ?l7 ?cc7 ?k7 ?a8 ?l8 ?cc8 ?k8 ?a9 ?l9 ?cc9 ?k9 ?a10 ?l10 ?cc10 ?k10 ?a11 ?l11 ?cc11 ?k11 ?a12 ?l12 ?cc12 ?k12 ?a13 ?l13 ?cc13 ?k13 ?a14 ?l14 ?cc14 ?k14 ?a15 ?l15 ?cc15 ?k15 ?a16 ?l16 ?cc16 ?k16 ?a17 ?l17 ?cc17 ?k17 ?a18 ?l18 ?cc18 ?k18 ?a19 ?l19 ?cc19 ?k19 ?a20 ?l20 ?cc20 ?k20 ?a21 ?l21 ?cc21 ?k21 ?a22 ?l22 ?cc22 ?k22 ?a23 ?l23 ?cc23 ?k23 ?a24 ?l24 ?cc24 ?k24 ?a25 ?l25 ?cc25 ?k25 ?a26 ?l26 ?cc26 ?k26 ?a27 ?l27 ?cc27 ?k27 ?a28 ?l28 ?cc28 ?k28 ?z_int ?z_range ?z_len ?z_tuple ?z_enumerate ?z_bool ?z_isinstance ?c_FUEL ?c_MODULUS ?va_FIRST ?tl_FIRST_1 ?te_FIRST_1 ?tl_FIRST_3 ?te_FIRST_3 ?tl_FIRST_8 ?te_FIRST_8 ?tl_FIRST_9 ?te_FIRST_9
    (case a0 => k_is); (case l0 => k_is); (case cc0 => k_is); (case k0 => k_is); (case a1 => k_is); (case l1 => k_is); (case cc1 => k_is); (case k1 => k_is); (case a2 => k_is); (case l2 => k_is); (case cc2 => k_is); (case k2 => k_is); (case a3 => k_is); (case l3 => k_is); (case cc3 => k_is); (case k3 => k_is); (case a4 => k_is); (case l4 => k_is); (case cc4 => k_is); (case k4 => k_is); (case a5 => k_is); (case l5 => k_is); (case cc5 => k_is); (case k5 => k_is); (case a6 => k_is); (case l6 => k_is); (case cc6 => k_is); (case k6 => k_is); (case a7 => k_is); (case l7 => k_is); (case cc7 => k_is); (case k7 => k_is); (case a8 => k_is); (case l8 => k_is); (case cc8 => k_is); (case k8 => k_is); (case a9 => k_is); (case l9 => k_is); (case cc9 => k_is); (case k9 => k_is); (case a10 => k_is); (case l10 => k_is); (case cc10 => k_is); (case k10 => k_is); (case a11 => k_is); (case l11 => k_is); (case cc11 => k_is); (case k11 => k_is); (case a12 => k_is); (case l12 => k_is); (case cc12 => k_is); (case k12 => k_is); (case a13 => k_is); (case l13 => k_is); (case cc13 => k_is); (case k13 => k_is); (case a14 => k_is); (case l14 => k_is); (case cc14 => k_is); (case k14 => k_is); (case a15 => k_is); (case l15 => k_is); (case cc15 => k_is); (case k15 => k_is); (case a16 => k_is); (case l16 => k_is); (case cc16 => k_is); (case k16 => k_is); (case a17 => k_is); (case l17 => k_is); (case cc17 => k_is); (case k17 => k_is); (case a18 => k_is); (case l18 => k_is); (case cc18 => k_is); (case k18 => k_is); (case a19 => k_is); (case l19 => k_is); (case cc19 => k_is); (case k19 => k_is); (case a20 => k_is); (case l20 => k_is); (case cc20 => k_is); (case k20 => k_is); (case a21 => k_is); (case l21 => k_is); (case cc21 => k_is); (case k21 => k_is); (case a22 => k_is); (case l22 => k_is); (case cc22 => k_is); (case k22 => k_is); (case a23 => k_is); (case l23 => k_is); (case cc23 => k_is); (case k23 => k_is); (case a24 => k_is); (case l24 => k_is); (case cc24 => k_is); (case k24 => k_is); (case a25 => k_is); (case l25 => k_is); (case cc25 => k_is); (case k25 => k_is); (case a26 => k_is); (case l26 => k_is); (case cc26 => k_is); (case k26 => k_is); (case a27 => k_is); (case l27 => k_is); (case cc27 => k_is); (case k27 => k_is); (case a28 => k_is); (case l28 => k_is); (case cc28 => k_is); (case k28 => k_is); (case z_int => k_is); (case z_range => k_is); (case z_len => k_is); (case z_tuple => k_is); (case z_enumerate => k_is); (case z_bool => k_is); (case z_isinstance => k_is); (case c_FUEL => k_is); (case c_MODULUS => k_is); (case va_FIRST => k_is); (case tl_FIRST_1 => k_is); (case te_FIRST_1 => rfl); (case tl_FIRST_3 => k_is); (case te_FIRST_3 => rfl); (case tl_FIRST_8 => k_is); (case te_FIRST_8 => rfl); (case tl_FIRST_9 => k_is); (case te_FIRST_9 => rfl)
