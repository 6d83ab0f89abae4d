import PyProof.Rows.All
import Wide.All
import OpenK.AllK
import Wide.FinOn
import HandS.ForMost
import HandS.IsInst
import HandS.TupAny
import HandS.Zip
import HandS.Defaults
import HandS.Style
import HandS.Text
import HandS.RaiseMore
import PyProof.ReprReads
import KE.GoesZip
import KE.GoesEnum
import KE.GoesMore
import KE.KDictCopyH
import KE.GoesComp
import KE.SortData
import HandS.TupSets
import HandS.ListEq
import HandS.Ends
import PySem.Challenge.RW_purseends_k28_fronts_and_entries_among_a
set_option Elab.async false
set_option linter.all false
set_option maxRecDepth 100000
namespace Dn
open PySem PySem.Spec PyProof.Rows L2

/-- a datum that never changes -/
inductive D where
  | non | bl (b : Bool) | int (i : Int) | str (s : Str) | ty (n : String)
  | lst (l : List D) | tup (l : List D)
  /-- a list that is read alone (the script) -/
  | frl (l : List D)
  | dct (ks : List Key) (l : List D)

/-- a value: a datum, or the i-th object of the store -/
inductive Vl where
  | dat (d : D) | obj (i : Nat)

mutual
inductive Rp (K : PySem.W.Frag) (G : Hp) : V → D → Prop
  | non : Rp K G .non .non
  | bl (b : Bool) : Rp K G (.bl b) (.bl b)
  | int (i : Int) : Rp K G (.int i) (.int i)
  | str (x : Str) : Rp K G (.str x) (.str x)
  | ty (n : String) : Rp K G (.ty n) (.ty n)
  | lst {a : Addr} {xs : List V} {ds : List D} : G a = some (.lst xs) → RpAll K G xs ds → Rp K G (.ref a) (.lst ds)
  | frl {a : Addr} {xs : List V} {ds : List D} : SqL K G a xs → RpAll K G xs ds → Rp K G (.ref a) (.frl ds)
  | tup {a : Addr} {xs : List V} {ds : List D} : SqT K G a xs → RpAll K G xs ds → Rp K G (.ref a) (.tup ds)
  | dct {a : Addr} {kvs : List (Key × V)} {ds : List D} : G a = some (.dK kvs) → RpAll K G (kvs.map (·.2)) ds → Rp K G (.ref a) (.dct (kvs.map (·.1)) ds)
inductive RpAll (K : PySem.W.Frag) (G : Hp) : List V → List D → Prop
  | nil : RpAll K G [] []
  | cons {v : V} {vs : List V} {d : D} {ds : List D} : Rp K G v d → RpAll K G vs ds → RpAll K G (v :: vs) (d :: ds)
end

/-- all that is in G is in H -/
abbrev Sub (G H : Hp) : Prop := ∀ a o, G a = some o → H a = some o
theorem Sub.refl (G : Hp) : Sub G G := fun _ _ h => h
theorem Sub.trans {A B C : Hp} (h : Sub A B) (k : Sub B C) : Sub A C := fun a o e => k a o (h a o e)
theorem Sub.free {A B : Hp} (h : Sub A B) {a : Addr} (e : B a = none) : A a = none := by
  cases q : A a with
  | none => rfl
  | some o => rw [h a o q] at e; cases e
theorem sub_upd {G : Hp} {p : Addr} {o : HO} (e : G p = none) : Sub G (upd G p o) := fun a u h => by
  rw [upd_ne (ne_of_none h e)]; exact h
theorem sub_sql {K : PySem.W.Frag} {G H : Hp} {a : Addr} {xs : List V} (h : Sub G H) (q : SqL K G a xs) : SqL K H a xs := by
  rcases q with (q | ⟨o, q⟩) | q
  · exact .inl (.inl (h _ _ q))
  · exact .inl (.inr ⟨o, h _ _ q⟩)
  · exact .inr q
theorem sub_sqt {K : PySem.W.Frag} {G H : Hp} {a : Addr} {xs : List V} (h : Sub G H) (q : SqT K G a xs) : SqT K H a xs := by
  rcases q with (q | ⟨o, q⟩) | q
  · exact .inl (.inl (h _ _ q))
  · exact .inl (.inr ⟨o, h _ _ q⟩)
  · exact .inr q
mutual
theorem Rp.mono {K : PySem.W.Frag} {G H : Hp} (h : Sub G H) : ∀ (d : D) (v : V), Rp K G v d → Rp K H v d
  | .non, _, r => by cases r; exact .non
  | .bl b, _, r => by cases r; exact .bl b
  | .int b, _, r => by cases r; exact .int b
  | .str b, _, r => by cases r; exact .str b
  | .ty b, _, r => by cases r; exact .ty b
  | .lst l, _, r => by cases r with | lst q ra => exact .lst (h _ _ q) (RpAll.mono h l _ ra)
  | .frl l, _, r => by cases r with | frl q ra => exact .frl (sub_sql h q) (RpAll.mono h l _ ra)
  | .tup l, _, r => by cases r with | tup q ra => exact .tup (sub_sqt h q) (RpAll.mono h l _ ra)
  | .dct ks l, _, r => by cases r with | dct q ra => exact .dct (h _ _ q) (RpAll.mono h l _ ra)
theorem RpAll.mono {K : PySem.W.Frag} {G H : Hp} (h : Sub G H) : ∀ (ds : List D) (vs : List V), RpAll K G vs ds → RpAll K H vs ds
  | [], _, r => by cases r; exact .nil
  | d :: ds, _, r => by cases r with | cons r1 r2 => exact .cons (Rp.mono h d _ r1) (RpAll.mono h ds _ r2)
end
theorem RpAll.length {K : PySem.W.Frag} {G : Hp} : ∀ {vs : List V} {ds : List D}, RpAll K G vs ds → vs.length = ds.length
  | _, _, .nil => rfl
  | _, _, .cons _ t => by rw [List.length_cons, List.length_cons, RpAll.length t]
theorem RpAll.get {K : PySem.W.Frag} {G : Hp} : ∀ {vs : List V} {ds : List D} {i : Nat} {d : D}, RpAll K G vs ds → ds[i]? = some d → ∃ v, vs[i]? = some v ∧ Rp K G v d
  | _, _, _, _, .nil, e => by simp at e
  | _, _, 0, _, .cons r _, e => by simp at e; subst e; exact ⟨_, rfl, r⟩
  | _, _, i + 1, d, .cons _ t, e => by
    obtain ⟨v, h1, h2⟩ := RpAll.get (i := i) (d := d) t (by simpa using e)
    exact ⟨v, by simpa using h1, h2⟩
theorem RpAll.append {K : PySem.W.Frag} {G : Hp} : ∀ {vs ws : List V} {ds es : List D}, RpAll K G vs ds → RpAll K G ws es → RpAll K G (vs ++ ws) (ds ++ es)
  | _, _, _, _, .nil, s => s
  | _, _, _, _, .cons r t, s => .cons r (RpAll.append t s)
theorem RpAll.take {K : PySem.W.Frag} {G : Hp} : ∀ {vs : List V} {ds : List D} (n : Nat), RpAll K G vs ds → RpAll K G (vs.take n) (ds.take n)
  | _, _, 0, _ => .nil
  | _, _, _ + 1, .nil => .nil
  | _, _, n + 1, .cons r t => .cons r (RpAll.take n t)
theorem RpAll.drop {K : PySem.W.Frag} {G : Hp} : ∀ {vs : List V} {ds : List D} (n : Nat), RpAll K G vs ds → RpAll K G (vs.drop n) (ds.drop n)
  | _, _, 0, r => r
  | _, _, _ + 1, .nil => .nil
  | _, _, n + 1, .cons _ t => RpAll.drop n t
theorem RpAll.set {K : PySem.W.Frag} {G : Hp} {v : V} {d : D} (r : Rp K G v d) : ∀ {vs : List V} {ds : List D} (i : Nat), RpAll K G vs ds → RpAll K G (vs.set i v) (ds.set i d)
  | _, _, _, .nil => .nil
  | _, _, 0, .cons _ t => .cons r t
  | _, _, i + 1, .cons q t => .cons q (RpAll.set r i t)
theorem RpAll.reverse {K : PySem.W.Frag} {G : Hp} : ∀ {vs : List V} {ds : List D}, RpAll K G vs ds → RpAll K G vs.reverse ds.reverse
  | _, _, .nil => .nil
  | _, _, .cons r t => by
    rw [List.reverse_cons, List.reverse_cons]
    exact (RpAll.reverse t).append (.cons r .nil)

/-- what a store's object holds: a list; gone -/
inductive MO where
  | lst (l : List D) | gone
abbrev Sto := List MO
abbrev Envr := List (Option Vl)

def MOk (K : PySem.W.Frag) (G H : Hp) (a : Addr) : MO → Prop
  | .lst ds => ∃ vs, H a = some (.lst vs) ∧ RpAll K G vs ds
  | .gone => ∃ o, H a = some o

/-- the world: data G, the frame F, the store m at μ, all in H -/
structure Wd (K : PySem.W.Frag) (G F : Hp) (μ : List Addr) (m : Sto) (H : Hp) : Prop where
  g : Sub G H
  f : Sub F H
  gf : ∀ a, G a ≠ none → F a = none
  nd : μ.Nodup
  gm : ∀ a ∈ μ, G a = none
  fm : ∀ a ∈ μ, F a = none
  len : μ.length = m.length
  ob : ∀ (i : Nat) (a : Addr) (x : MO), μ[i]? = some a → m[i]? = some x → MOk K G H a x

structure Gr (G : Hp) (μ : List Addr) (G' : Hp) (μ' : List Addr) : Prop where
  g : Sub G G'
  m : ∃ e, μ' = μ ++ e
theorem Gr.refl (G : Hp) (μ : List Addr) : Gr G μ G μ := ⟨Sub.refl G, [], by simp⟩
theorem Gr.trans {G G1 G2 : Hp} {μ μ1 μ2 : List Addr} (a : Gr G μ G1 μ1) (b : Gr G1 μ1 G2 μ2) : Gr G μ G2 μ2 := by
  obtain ⟨e, h⟩ := a.m
  obtain ⟨e', h'⟩ := b.m
  exact ⟨a.g.trans b.g, e ++ e', by rw [h', h, List.append_assoc]⟩
theorem Gr.at {G G' : Hp} {μ μ' : List Addr} (g : Gr G μ G' μ') {i : Nat} {a : Addr} (h : μ[i]? = some a) : μ'[i]? = some a := by
  obtain ⟨e, h'⟩ := g.m
  rw [h', List.getElem?_append_left (List.getElem?_eq_some_iff.mp h).1]
  exact h

/-- a value's standing for a Vl -/
inductive RV (K : PySem.W.Frag) (G : Hp) (μ : List Addr) : V → Vl → Prop
  | dat {v : V} {d : D} : Rp K G v d → RV K G μ v (.dat d)
  | obj {i : Nat} {a : Addr} : μ[i]? = some a → RV K G μ (.ref a) (.obj i)
theorem RV.mono {K : PySem.W.Frag} {G G' : Hp} {μ μ' : List Addr} {v : V} {x : Vl} (g : Gr G μ G' μ') (r : RV K G μ v x) : RV K G' μ' v x := by
  cases r with
  | dat r => exact .dat (Rp.mono g.g _ _ r)
  | obj h => exact .obj (g.at h)

/-- the slots -/
structure ER (K : PySem.W.Frag) (G : Hp) (μ : List Addr) (σ : L2.St) (ρ : Envr) : Prop where
  len : σ.length = ρ.length
  at_ : ∀ (i : Nat) (x : Vl), ρ[i]? = some (some x) → ∃ v, σ[i]? = some (some v) ∧ RV K G μ v x
theorem ER.mono {K : PySem.W.Frag} {G G' : Hp} {μ μ' : List Addr} {σ : L2.St} {ρ : Envr} (g : Gr G μ G' μ') (r : ER K G μ σ ρ) : ER K G' μ' σ ρ :=
  ⟨r.len, fun i x h => let ⟨v, e, q⟩ := r.at_ i x h; ⟨v, e, q.mono g⟩⟩
theorem ER.set {K : PySem.W.Frag} {G : Hp} {μ : List Addr} {σ : L2.St} {ρ : Envr} {v : V} {x : Vl} (r : ER K G μ σ ρ) (q : RV K G μ v x) (i : Nat) : ER K G μ (σ.set i (some v)) (ρ.set i (some x)) := by
  refine ⟨by rw [List.length_set, List.length_set, r.len], fun j y h => ?_⟩
  by_cases e : i = j
  · subst e
    by_cases hi : i < ρ.length
    · rw [List.getElem?_set_self hi] at h
      cases h
      exact ⟨v, by rw [List.getElem?_set_self (by rw [r.len]; exact hi)], q⟩
    · rw [List.getElem?_eq_none (by rw [List.length_set]; omega)] at h
      cases h
  · rw [List.getElem?_set_ne e] at h
    obtain ⟨w, h1, h2⟩ := r.at_ j y h
    exact ⟨w, by rw [List.getElem?_set_ne e]; exact h1, h2⟩
theorem ER.wipe {K : PySem.W.Frag} {G : Hp} {μ : List Addr} {σ : L2.St} {ρ : Envr} (r : ER K G μ σ ρ) (i : Nat) : ER K G μ (σ.set i none) (ρ.set i none) := by
  refine ⟨by rw [List.length_set, List.length_set, r.len], fun j y h => ?_⟩
  by_cases e : i = j
  · subst e
    by_cases hi : i < ρ.length
    · rw [List.getElem?_set_self hi] at h; cases h
    · rw [List.getElem?_eq_none (by rw [List.length_set]; omega)] at h; cases h
  · rw [List.getElem?_set_ne e] at h
    obtain ⟨w, h1, h2⟩ := r.at_ j y h
    exact ⟨w, by rw [List.getElem?_set_ne e]; exact h1, h2⟩
end Dn
set_option Elab.async false
set_option linter.all false
set_option maxRecDepth 100000
namespace Dn
open PySem PySem.Spec PyProof.Rows L2

section
variable {K : PySem.W.Frag} {G F H : Hp} {μ : List Addr} {m : Sto} {p : Addr}

theorem MOk.there {a : Addr} {x : MO} (h : MOk K G H a x) : ∃ o, H a = some o := by
  cases x with
  | lst ds => obtain ⟨vs, e, _⟩ := h; exact ⟨_, e⟩
  | gone => exact h
theorem Wd.mu_there (W : Wd K G F μ m H) {i : Nat} {a : Addr} (h : μ[i]? = some a) : ∃ o, H a = some o := by
  have hl := (List.getElem?_eq_some_iff.mp h).1
  have hm : i < m.length := by rw [← W.len]; exact hl
  exact (W.ob i a m[i] h (List.getElem?_eq_getElem hm)).there
theorem Wd.new_mu (W : Wd K G F μ m H) (hp : H p = none) : p ∉ μ := fun h => by
  obtain ⟨i, hi⟩ := List.mem_iff_getElem?.mp h
  obtain ⟨o, e⟩ := W.mu_there hi
  rw [hp] at e; cases e
theorem Wd.new_g (W : Wd K G F μ m H) (hp : H p = none) : G p = none := W.g.free hp
theorem Wd.new_f (W : Wd K G F μ m H) (hp : H p = none) : F p = none := W.f.free hp

/-- a new datum -/
theorem Wd.new {o : HO} (W : Wd K G F μ m H) (hp : H p = none) : Wd K (upd G p o) F μ m (upd H p o) where
  g := fun a u h => by
    by_cases e : a = p
    · subst e; rw [upd_same] at h ⊢; exact h
    · rw [upd_ne e] at h ⊢; exact W.g a u h
  f := fun a u h => by
    rw [upd_ne (ne_of_none h (W.new_f hp))]; exact W.f a u h
  gf := fun a h => by
    by_cases e : a = p
    · subst e; exact W.new_f hp
    · rw [upd_ne e] at h; exact W.gf a h
  nd := W.nd
  gm := fun a h => by
    have ne : a ≠ p := fun e => W.new_mu hp (e ▸ h)
    rw [upd_ne ne]; exact W.gm a h
  fm := W.fm
  len := W.len
  ob := fun i a x h1 h2 => by
    have ne : a ≠ p := fun e => W.new_mu hp (e ▸ List.mem_of_getElem? h1)
    have q := W.ob i a x h1 h2
    cases x with
    | lst ds =>
      obtain ⟨vs, e, r⟩ := q
      exact ⟨vs, by rw [upd_ne ne]; exact e, RpAll.mono (sub_upd (W.new_g hp)) _ _ r⟩
    | gone =>
      obtain ⟨u, e⟩ := q
      exact ⟨u, by rw [upd_ne ne]; exact e⟩
theorem Gr.new {o : HO} (hp : G p = none) : Gr G μ (upd G p o) μ := ⟨sub_upd hp, [], by simp⟩
theorem rp_newT {vs : List V} {ds : List D} (hp : G p = none) (r : RpAll K G vs ds) : Rp K (upd G p (.tup vs)) (.ref p) (.tup ds) :=
  .tup (SqT.of upd_same) (RpAll.mono (sub_upd hp) _ _ r)
theorem rp_newL {vs : List V} {ds : List D} (hp : G p = none) (r : RpAll K G vs ds) : Rp K (upd G p (.lst vs)) (.ref p) (.lst ds) :=
  .lst upd_same (RpAll.mono (sub_upd hp) _ _ r)

/-- a new object of the store -/
theorem Wd.newO {vs : List V} {ds : List D} (W : Wd K G F μ m H) (hp : H p = none) (r : RpAll K G vs ds) : Wd K G F (μ ++ [p]) (m ++ [.lst ds]) (upd H p (.lst vs)) where
  g := fun a u h => by rw [upd_ne (ne_of_none h (W.new_g hp))]; exact W.g a u h
  f := fun a u h => by rw [upd_ne (ne_of_none h (W.new_f hp))]; exact W.f a u h
  gf := W.gf
  nd := by
    rw [List.nodup_append]
    refine ⟨W.nd, by simp, fun a ha b hb => ?_⟩
    have e : b = p := by simpa using hb
    subst e
    exact fun e => W.new_mu hp (e ▸ ha)
  gm := fun a h => by
    rcases List.mem_append.mp h with h | h
    · exact W.gm a h
    · have e : a = p := by simpa using h
      subst e; exact W.new_g hp
  fm := fun a h => by
    rcases List.mem_append.mp h with h | h
    · exact W.fm a h
    · have e : a = p := by simpa using h
      subst e; exact W.new_f hp
  len := by rw [List.length_append, List.length_append, W.len]; rfl
  ob := fun i a x h1 h2 => by
    by_cases hi : i < μ.length
    · rw [List.getElem?_append_left hi] at h1
      rw [List.getElem?_append_left (by rw [← W.len]; exact hi)] at h2
      have ne : a ≠ p := fun e => W.new_mu hp (e ▸ List.mem_of_getElem? h1)
      have q := W.ob i a x h1 h2
      cases x with
      | lst es => obtain ⟨ws, e, r'⟩ := q; exact ⟨ws, by rw [upd_ne ne]; exact e, r'⟩
      | gone => obtain ⟨u, e⟩ := q; exact ⟨u, by rw [upd_ne ne]; exact e⟩
    · have hi2 : i = μ.length := by
        have := (List.getElem?_eq_some_iff.mp h1).1
        rw [List.length_append] at this
        simp at this; omega
      subst hi2
      rw [List.getElem?_append_right (Nat.le_refl _)] at h1
      rw [List.getElem?_append_right (by rw [W.len]; exact Nat.le_refl _)] at h2
      rw [W.len] at h2
      simp at h1 h2
      subst h1 h2
      exact ⟨vs, upd_same, r⟩
theorem Gr.newO : Gr G μ G (μ ++ [p]) := ⟨Sub.refl G, [p], rfl⟩
theorem Wd.lstAt (W : Wd K G F μ m H) {i : Nat} {a : Addr} {ds : List D} (h : μ[i]? = some a) (hm : m[i]? = some (.lst ds)) : ∃ vs, H a = some (.lst vs) ∧ RpAll K G vs ds := W.ob i a _ h hm
/-- an object of the store is changed -/
theorem Wd.setO {i : Nat} {a : Addr} {vs : List V} {ds : List D} (W : Wd K G F μ m H) (h : μ[i]? = some a) (r : RpAll K G vs ds) : Wd K G F μ (m.set i (.lst ds)) (upd H a (.lst vs)) := by
  have ha : a ∈ μ := List.mem_of_getElem? h
  have hl := (List.getElem?_eq_some_iff.mp h).1
  refine ⟨fun b u e => ?_, fun b u e => ?_, W.gf, W.nd, W.gm, W.fm, by rw [List.length_set]; exact W.len, fun j b x h1 h2 => ?_⟩
  · rw [upd_ne (ne_of_none e (W.gm a ha))]; exact W.g b u e
  · rw [upd_ne (ne_of_none e (W.fm a ha))]; exact W.f b u e
  · by_cases e : i = j
    · subst e
      rw [h] at h1; cases h1
      rw [List.getElem?_set_self (by rw [← W.len]; exact hl)] at h2
      cases h2
      exact ⟨vs, upd_same, r⟩
    · rw [List.getElem?_set_ne e] at h2
      have ne : b ≠ a := fun q => by
        subst q
        have h1' := List.getElem?_eq_some_iff.mp h1
        have h' := List.getElem?_eq_some_iff.mp h
        obtain ⟨l1, e1⟩ := h1'
        obtain ⟨l2, e2⟩ := h'
        exact e ((List.getElem_inj W.nd).mp (e2.trans e1.symm))
      have q := W.ob j b x h1 h2
      cases x with
      | lst es => obtain ⟨ws, e', r'⟩ := q; exact ⟨ws, by rw [upd_ne ne]; exact e', r'⟩
      | gone => obtain ⟨u, e'⟩ := q; exact ⟨u, by rw [upd_ne ne]; exact e'⟩
/-- fewer objects are looked at -/
theorem Wd.take (W : Wd K G F μ m H) (n : Nat) : Wd K G F (μ.take n) (m.take n) H where
  g := W.g
  f := W.f
  gf := W.gf
  nd := W.nd.sublist (List.take_sublist _ _)
  gm := fun a h => W.gm a (List.mem_of_mem_take h)
  fm := fun a h => W.fm a (List.mem_of_mem_take h)
  len := by rw [List.length_take, List.length_take, W.len]
  ob := fun i a x h1 h2 => by
    rw [List.getElem?_take] at h1 h2
    split at h1
    · rename_i hi
      rw [if_pos hi] at h2
      exact W.ob i a x h1 h2
    · cases h1
/-- an object of the store, behind those that are looked at, as a datum -/
theorem Wd.freeze {i n : Nat} {a : Addr} {vs : List V} {ds : List D} (W : Wd K G F μ m H) (h : μ[i]? = some a) (hn : n ≤ i) (e : H a = some (.lst vs)) : Wd K (upd G a (.lst vs)) F (μ.take n) (m.take n) H := by
  have ha : a ∈ μ := List.mem_of_getElem? h
  have W' := W.take n
  have nin : ∀ j b, (μ.take n)[j]? = some b → b ≠ a := fun j b hb q => by
    subst q
    rw [List.getElem?_take] at hb
    split at hb
    · rename_i hj
      obtain ⟨l1, e1⟩ := List.getElem?_eq_some_iff.mp hb
      obtain ⟨l2, e2⟩ := List.getElem?_eq_some_iff.mp h
      have := (List.getElem_inj W.nd).mp (e1.trans e2.symm)
      omega
    · cases hb
  have nin' : ∀ b ∈ μ.take n, b ≠ a := fun b hb => by
    obtain ⟨j, hj⟩ := List.mem_iff_getElem?.mp hb
    exact nin j b hj
  refine ⟨fun b u q => ?_, W.f, fun b q => ?_, W'.nd, fun b hb => ?_, W'.fm, W'.len, fun j b x h1 h2 => ?_⟩
  · by_cases hb : b = a
    · subst hb; rw [upd_same] at q; cases q; exact e
    · rw [upd_ne hb] at q; exact W.g b u q
  · by_cases hb : b = a
    · subst hb; exact W.fm _ ha
    · rw [upd_ne hb] at q; exact W.gf b q
  · rw [upd_ne (nin' b hb)]; exact W'.gm b hb
  · have q := W'.ob j b x h1 h2
    cases x with
    | lst es => obtain ⟨ws, e', r'⟩ := q; exact ⟨ws, e', RpAll.mono (sub_upd (W.gm a ha)) _ _ r'⟩
    | gone => exact q
/-- a list that is made goes to the frame -/
theorem Wd.toF {o : HO} (W : Wd K G F μ m H) (hp : H p = none) : Wd K G (upd F p o) μ m (upd H p o) where
  g := fun a u h => by rw [upd_ne (ne_of_none h (W.new_g hp))]; exact W.g a u h
  f := fun a u h => by
    by_cases e : a = p
    · subst e; rw [upd_same] at h ⊢; exact h
    · rw [upd_ne e] at h ⊢; exact W.f a u h
  gf := fun a h => by
    have ne : a ≠ p := fun e => h (e ▸ W.new_g hp)
    rw [upd_ne ne]; exact W.gf a h
  nd := W.nd
  gm := W.gm
  fm := fun a h => by
    have ne : a ≠ p := fun e => W.new_mu hp (e ▸ h)
    rw [upd_ne ne]; exact W.fm a h
  len := W.len
  ob := fun i a x h1 h2 => by
    have ne : a ≠ p := fun e => W.new_mu hp (e ▸ List.mem_of_getElem? h1)
    have q := W.ob i a x h1 h2
    cases x with
    | lst es => obtain ⟨ws, e', r'⟩ := q; exact ⟨ws, by rw [upd_ne ne]; exact e', r'⟩
    | gone => obtain ⟨u, e'⟩ := q; exact ⟨u, by rw [upd_ne ne]; exact e'⟩
theorem Wd.inF {o : HO} (W : Wd K G (upd F p o) μ m H) : H p = some o := W.f p o upd_same
/-- what lies in the frame is changed -/
theorem Wd.setF {o o' : HO} (W : Wd K G (upd F p o) μ m H) : Wd K G (upd F p o') μ m (upd H p o') := by
  have gp : G p = none := by
    cases q : G p with
    | none => rfl
    | some u =>
      have := W.gf p (by rw [q]; simp)
      rw [upd_same] at this; cases this
  have mp : p ∉ μ := fun h => by
    have := W.fm p h
    rw [upd_same] at this; cases this
  refine ⟨fun a u h => ?_, fun a u h => ?_, fun a h => ?_, W.nd, W.gm, fun a h => ?_, W.len, fun i a x h1 h2 => ?_⟩
  · rw [upd_ne (ne_of_none h gp)]; exact W.g a u h
  · by_cases e : a = p
    · subst e; rw [upd_same] at h ⊢; exact h
    · rw [upd_ne e] at h ⊢; exact W.f a u (by rw [upd_ne e]; exact h)
  · have ne : a ≠ p := fun e => h (e ▸ gp)
    have := W.gf a h
    rw [upd_ne ne] at this ⊢; exact this
  · have ne : a ≠ p := fun e => mp (e ▸ h)
    have := W.fm a h
    rw [upd_ne ne] at this ⊢; exact this
  · have ne : a ≠ p := fun e => mp (e ▸ List.mem_of_getElem? h1)
    have q := W.ob i a x h1 h2
    cases x with
    | lst es => obtain ⟨ws, e', r'⟩ := q; exact ⟨ws, by rw [upd_ne ne]; exact e', r'⟩
    | gone => obtain ⟨u, e'⟩ := q; exact ⟨u, by rw [upd_ne ne]; exact e'⟩
/-- what lies in the frame becomes a datum -/
theorem Wd.ofF {o : HO} (W : Wd K G (upd F p o) μ m H) (hF : F p = none) : G p = none ∧ Wd K (upd G p o) F μ m H := by
  have gp : G p = none := by
    cases q : G p with
    | none => rfl
    | some u =>
      have := W.gf p (by rw [q]; simp)
      rw [upd_same] at this; cases this
  have mp : p ∉ μ := fun h => by
    have := W.fm p h
    rw [upd_same] at this; cases this
  refine ⟨gp, fun a u h => ?_, fun a u h => ?_, fun a h => ?_, W.nd, fun a h => ?_, fun a h => ?_, W.len, fun i a x h1 h2 => ?_⟩
  · by_cases e : a = p
    · subst e; rw [upd_same] at h; cases h; exact W.inF
    · rw [upd_ne e] at h; exact W.g a u h
  · exact W.f a u (by rw [upd_ne (ne_of_none h hF)]; exact h)
  · by_cases e : a = p
    · subst e; exact hF
    · rw [upd_ne e] at h
      have := W.gf a h
      rw [upd_ne e] at this; exact this
  · have ne : a ≠ p := fun e => mp (e ▸ h)
    rw [upd_ne ne]; exact W.gm a h
  · have ne : a ≠ p := fun e => mp (e ▸ h)
    have := W.fm a h
    rw [upd_ne ne] at this; exact this
  · have q := W.ob i a x h1 h2
    cases x with
    | lst es => obtain ⟨ws, e', r'⟩ := q; exact ⟨ws, e', RpAll.mono (sub_upd gp) _ _ r'⟩
    | gone => exact q
end

/-! ### denotations -/
inductive Flw where
  | nx | bk | ct | rt (x : Vl)
abbrev EDen := Envr → Sto → Option (Vl × Sto)
abbrev TDen := Envr → Sto → Option (Bool × Sto)
abbrev ADen := Envr → Sto → Option (List Vl × Sto)
abbrev SDen := Envr → Sto → Option (Flw × Envr × Sto)
abbrev FDen := List Vl → Sto → Option (Vl × Sto)

inductive RVAll (K : PySem.W.Frag) (G : Hp) (μ : List Addr) : List V → List Vl → Prop
  | nil : RVAll K G μ [] []
  | cons {v : V} {vs : List V} {x : Vl} {xs : List Vl} : RV K G μ v x → RVAll K G μ vs xs → RVAll K G μ (v :: vs) (x :: xs)
theorem RVAll.mono {K : PySem.W.Frag} {G G' : Hp} {μ μ' : List Addr} (g : Gr G μ G' μ') : ∀ {vs : List V} {xs : List Vl}, RVAll K G μ vs xs → RVAll K G' μ' vs xs
  | _, _, .nil => .nil
  | _, _, .cons r t => .cons (r.mono g) (RVAll.mono g t)
theorem RVAll.length {K : PySem.W.Frag} {G : Hp} {μ : List Addr} : ∀ {vs : List V} {xs : List Vl}, RVAll K G μ vs xs → vs.length = xs.length
  | _, _, .nil => rfl
  | _, _, .cons _ t => by rw [List.length_cons, List.length_cons, RVAll.length t]

/-- data alone -/
def datAll : List Vl → Option (List D)
  | [] => some []
  | .dat d :: r => (datAll r).map (d :: ·)
  | .obj _ :: _ => none
theorem datAll_rp {K : PySem.W.Frag} {G : Hp} {μ : List Addr} : ∀ {vs : List V} {xs : List Vl} {ds : List D}, RVAll K G μ vs xs → datAll xs = some ds → RpAll K G vs ds
  | _, _, _, .nil, e => by cases e; exact .nil
  | _, _, _, .cons (.dat r) t, e => by
    unfold datAll at e
    cases q : datAll _ with
    | none => rw [q] at e; cases e
    | some es =>
      rw [q] at e; cases e
      exact .cons r (datAll_rp t q)
  | _, _, _, .cons (.obj _) t, e => by cases e

section
variable (K : PySem.W.Frag)
/-- what follows: a value x, the store m' -/
abbrev Aft (G F : Hp) (μ : List Addr) (x : Vl) (m' : Sto) (Q : VK) : Prop := ∀ v G' μ' H', Wd K G' F μ' m' H' → Gr G μ G' μ' → RV K G' μ' v x → Q v H'
def DenE (te : TE) (f : EDen) : Prop := ∀ (σ : L2.St) (ρ : Envr) (G F : Hp) (μ : List Addr) (m : Sto) (H : Hp) (x : Vl) (m' : Sto) (Q : VK),
  Wd K G F μ m H → ER K G μ σ ρ → f ρ m = some (x, m') → Aft K G F μ x m' Q → te σ H Q
def DenT (tt : TT) (f : TDen) : Prop := ∀ (σ : L2.St) (ρ : Envr) (G F : Hp) (μ : List Addr) (m : Sto) (H : Hp) (b : Bool) (m' : Sto) (Q : Bool → Hp → Prop),
  Wd K G F μ m H → ER K G μ σ ρ → f ρ m = some (b, m') → (∀ G' μ' H', Wd K G' F μ' m' H' → Gr G μ G' μ' → Q b H') → tt σ H Q
def DenA (ta : TA) (f : ADen) : Prop := ∀ (σ : L2.St) (ρ : Envr) (G F : Hp) (μ : List Addr) (m : Sto) (H : Hp) (xs : List Vl) (m' : Sto) (Q : List V → Hp → Prop),
  Wd K G F μ m H → ER K G μ σ ρ → f ρ m = some (xs, m') → (∀ vs G' μ' H', Wd K G' F μ' m' H' → Gr G μ G' μ' → RVAll K G' μ' vs xs → Q vs H') → ta σ H Q
/-- an operation by values -/
def DenC (r : List V → Hp → VK → Prop) (g : FDen) : Prop := ∀ (G F : Hp) (μ : List Addr) (m : Sto) (H : Hp) (vs : List V) (xs : List Vl) (x : Vl) (m' : Sto) (Q : VK),
  Wd K G F μ m H → RVAll K G μ vs xs → g xs m = some (x, m') → Aft K G F μ x m' Q → r vs H Q
def Den2 (r : R2) (g : Vl → Vl → Sto → Option (Vl × Sto)) : Prop := ∀ (G F : Hp) (μ : List Addr) (m : Sto) (H : Hp) (v u : V) (x y z : Vl) (m' : Sto) (Q : VK),
  Wd K G F μ m H → RV K G μ v x → RV K G μ u y → g x y m = some (z, m') → Aft K G F μ z m' Q → r v u H Q
def Den1 (r : V → Hp → VK → Prop) (g : Vl → Sto → Option (Vl × Sto)) : Prop := ∀ (G F : Hp) (μ : List Addr) (m : Sto) (H : Hp) (v : V) (x z : Vl) (m' : Sto) (Q : VK),
  Wd K G F μ m H → RV K G μ v x → g x m = some (z, m') → Aft K G F μ z m' Q → r v H Q
def endsOf (G F : Hp) (μ : List Addr) (fl : Flw) (ρ' : Envr) (m' : Sto) (Dn : Ends) : Prop := match fl with
  | .nx => ∀ σ' G' μ' H', Wd K G' F μ' m' H' → Gr G μ G' μ' → ER K G' μ' σ' ρ' → Dn.nx σ' H'
  | .bk => ∀ σ' G' μ' H', Wd K G' F μ' m' H' → Gr G μ G' μ' → ER K G' μ' σ' ρ' → Dn.bk σ' H'
  | .ct => ∀ σ' G' μ' H', Wd K G' F μ' m' H' → Gr G μ G' μ' → ER K G' μ' σ' ρ' → Dn.ct σ' H'
  | .rt x => Aft K G F μ x m' Dn.rt
def DenS (t : TS) (f : SDen) : Prop := ∀ (σ : L2.St) (ρ : Envr) (G F : Hp) (μ : List Addr) (m : Sto) (H : Hp) (fl : Flw) (ρ' : Envr) (m' : Sto) (Dn : Ends),
  Wd K G F μ m H → ER K G μ σ ρ → f ρ m = some (fl, ρ', m') → endsOf K G F μ fl ρ' m' Dn → t Dn σ H
end
structure DE (X : Cx) (e : Expr) (te : TE) (f : EDen) : Prop where
  pe : PE X e te
  dn : DenE X.K te f
structure DT (X : Cx) (e : Expr) (tt : TT) (f : TDen) : Prop where
  pt : PT X e tt
  dn : DenT X.K tt f
structure DW (X : Cx) (e : Expr) (tt : TT) (f : TDen) : Prop where
  pw : PW X e tt
  dn : DenT X.K tt f
structure DA (X : Cx) (es : List Expr) (ta : TA) (f : ADen) : Prop where
  pa : PA X es ta
  dn : DenA X.K ta f
structure DS (X : Cx) (st : Stmt) (t : TS) (f : SDen) : Prop where
  ps : PS X st t
  dn : DenS X.K t f
structure DSs (X : Cx) (st : List Stmt) (t : TS) (f : SDen) : Prop where
  ps : PSs X st t
  dn : DenS X.K t f
theorem Aft.of {K : PySem.W.Frag} {G G1 F : Hp} {μ μ1 : List Addr} {x : Vl} {m' : Sto} {Q : VK} (a : Aft K G F μ x m' Q) (g : Gr G μ G1 μ1) : Aft K G1 F μ1 x m' Q := fun v G' μ' H' W g' r => a v G' μ' H' W (g.trans g') r
end Dn
set_option Elab.async false
set_option linter.all false
set_option maxRecDepth 100000
namespace Dn
open PySem PySem.Spec PyProof.Rows L2

/-! ### expressions -/
section
variable {X : Cx} {K : PySem.W.Frag} {e a b : Expr} {es : List Expr} {te ta tb : TE} {f fa fb : EDen} {pos : Pos}
def dVar (i : Nat) : EDen := fun ρ m => match ρ[i]? with
  | some (some x) => some (x, m)
  | _ => none
theorem de_var {x : Str} (i : Nat) (h : PE X (.Name x pos) (tVar i)) : DE X (.Name x pos) (tVar i) (dVar i) := ⟨h, by
  intro σ ρ G F μ m H x m' Q W E h q
  unfold dVar at h
  split at h
  · rename_i y hy
    cases h
    obtain ⟨v, e1, r⟩ := E.at_ i x hy
    exact ⟨v, e1, q v G μ H W (Gr.refl G μ) r⟩
  · cases h⟩
def dC (d : D) : EDen := fun _ m => some (.dat d, m)
theorem den_c {v : V} {d : D} (r : ∀ G, Rp K G v d) : DenE K (tC v) (dC d) := by
  intro σ ρ G F μ m H x m' Q W E h q
  cases h
  exact q v G μ H W (Gr.refl G μ) (.dat (r G))
theorem de_int {i : Int} {j : Nat} : DE X (.Constant (.int i) j pos) (tC (.int i)) (dC (.int i)) := ⟨pe_int, den_c fun _ => .int i⟩
theorem de_bl {i : Bool} {j : Nat} : DE X (.Constant (.bool i) j pos) (tC (.bl i)) (dC (.bl i)) := ⟨pe_bl, den_c fun _ => .bl i⟩
theorem de_non {j : Nat} : DE X (.Constant .none j pos) (tC .non) (dC .non) := ⟨pe_non, den_c fun _ => .non⟩
theorem de_str {x : Str} {j : Nat} : DE X (.Constant (.str x) j pos) (tC (.str x)) (dC (.str x)) := ⟨pe_str, den_c fun _ => .str x⟩
theorem de_gint {x : Str} {i : Int} {t : Tok} (hg : Gl X x) (hm : X.mg x = some (.int i t)) (hd : (x == ("__debug__" : Str)) = false := by decide) : DE X (.Name x pos) (tC (.int i)) (dC (.int i)) := ⟨pe_glob hg hm ⟨t, rfl⟩ hd, den_c fun _ => .int i⟩
theorem de_gstr {x : Str} {i : Str} {t : Tok} (hg : Gl X x) (hm : X.mg x = some (.str i t)) (hd : (x == ("__debug__" : Str)) = false := by decide) : DE X (.Name x pos) (tC (.str i)) (dC (.str i)) := ⟨pe_glob hg hm ⟨t, rfl⟩ hd, den_c fun _ => .str i⟩
theorem de_ty {x : Str} {n : String} (hg : Gl X x) (hm : X.mg x = none) (hv : bootBuiltins x = some (.type n)) (hn : x ≠ "__name__" := by decide) (hd : (x == ("__debug__" : Str)) = false := by decide) : DE X (.Name x pos) (tC (.ty n)) (dC (.ty n)) :=
  ⟨pe_bltn hg hm hv rfl hn hd, den_c fun _ => .ty n⟩

/-! argument lists -/
def dNil : ADen := fun _ m => some ([], m)
def dCons (f : EDen) (g : ADen) : ADen := fun ρ m => (f ρ m).bind fun p => (g ρ p.2).bind fun q => some (p.1 :: q.1, q.2)
theorem da_nil : DA X [] tNil dNil := ⟨pa_nil, by
  intro σ ρ G F μ m H xs m' Q W E h q
  cases h
  exact q [] G μ H W (Gr.refl G μ) .nil⟩
theorem den_cons {ta : TE} {tr : TA} {f : EDen} {g : ADen} (ha : DenE K ta f) (hr : DenA K tr g) : DenA K (tCons ta tr) (dCons f g) := by
  intro σ ρ G F μ m H xs m' Q W E h q
  unfold dCons at h
  cases h1 : f ρ m with
  | none => rw [h1] at h; cases h
  | some p =>
    rw [h1] at h
    cases h2 : g ρ p.2 with
    | none => simp only [Option.bind_some, h2] at h; cases h
    | some r =>
      simp only [Option.bind_some, h2] at h
      cases h
      refine ha σ ρ G F μ m H p.1 p.2 _ W E h1 fun v G1 μ1 H1 W1 g1 r1 => ?_
      refine hr σ ρ G1 F μ1 p.2 H1 r.1 r.2 _ W1 (E.mono g1) h2 fun vs G2 μ2 H2 W2 g2 r2 => ?_
      exact q _ G2 μ2 H2 W2 (g1.trans g2) (.cons (r1.mono g2) r2)
theorem da_cons {tr : TA} {g : ADen} (ha : DE X e te f) (hr : DA X es tr g) (hs : starEach (e :: es) X.env = (false, eval e X.env) :: starEach es X.env := by rfl) : DA X (e :: es) (tCons te tr) (dCons f g) :=
  ⟨pa_cons ha.pe hr.pa hs, den_cons ha.dn hr.dn⟩

/-! displays -/
def lim (n : Nat) : Bool := decide (n ≤ 1000000)
theorem lim_sz {n : Nat} (h : lim n = true) : n ≤ sizeLine := Nat.le_trans (of_decide_eq_true h) (by decide)
theorem lim_lt {n : Nat} (h : lim n = true) : n < sizeLine := Nat.lt_of_le_of_lt (of_decide_eq_true h) (by decide)
def dTup (g : ADen) : EDen := fun ρ m => (g ρ m).bind fun p => match datAll p.1 with
  | some ds => if lim ds.length then some (.dat (.tup ds), p.2) else none
  | none => none
def dLst (g : ADen) : EDen := fun ρ m => (g ρ m).bind fun p => match datAll p.1 with
  | some ds => if lim ds.length then some (.dat (.lst ds), p.2) else none
  | none => none
/-- a list display that becomes an object of the store -/
def dLstO (g : ADen) : EDen := fun ρ m => (g ρ m).bind fun p => match datAll p.1 with
  | some ds => if lim ds.length then some (.obj p.2.length, p.2 ++ [.lst ds]) else none
  | none => none
theorem den_tup {ta : TA} {g : ADen} (ha : DenA K ta g) : DenE K (tTup ta) (dTup g) := by
  intro σ ρ G F μ m H x m' Q W E h q
  unfold dTup at h
  cases h1 : g ρ m with
  | none => rw [h1] at h; cases h
  | some p =>
    rw [h1] at h
    simp only [Option.bind_some] at h
    split at h
    · rename_i ds hds
      split at h
      · rename_i hl
        cases h
        refine ha σ ρ G F μ m H p.1 p.2 _ W E h1 fun vs G1 μ1 H1 W1 g1 r1 => ?_
        have r2 := datAll_rp r1 hds
        refine ⟨by rw [r2.length]; exact lim_sz hl, fun a ha => ?_⟩
        exact q _ _ μ1 _ (W1.new ha) (g1.trans (Gr.new (W1.new_g ha))) (.dat (rp_newT (W1.new_g ha) r2))
      · cases h
    · cases h
theorem den_lst {ta : TA} {g : ADen} (ha : DenA K ta g) : DenE K (tLst ta) (dLst g) := by
  intro σ ρ G F μ m H x m' Q W E h q
  unfold dLst at h
  cases h1 : g ρ m with
  | none => rw [h1] at h; cases h
  | some p =>
    rw [h1] at h
    simp only [Option.bind_some] at h
    split at h
    · rename_i ds hds
      split at h
      · rename_i hl
        cases h
        refine ha σ ρ G F μ m H p.1 p.2 _ W E h1 fun vs G1 μ1 H1 W1 g1 r1 => ?_
        have r2 := datAll_rp r1 hds
        refine ⟨by rw [r2.length]; exact lim_sz hl, fun a ha => ?_⟩
        exact q _ _ μ1 _ (W1.new ha) (g1.trans (Gr.new (W1.new_g ha))) (.dat (rp_newL (W1.new_g ha) r2))
      · cases h
    · cases h
theorem den_lstO {ta : TA} {g : ADen} (ha : DenA K ta g) : DenE K (tLst ta) (dLstO g) := by
  intro σ ρ G F μ m H x m' Q W E h q
  unfold dLstO at h
  cases h1 : g ρ m with
  | none => rw [h1] at h; cases h
  | some p =>
    rw [h1] at h
    simp only [Option.bind_some] at h
    split at h
    · rename_i ds hds
      split at h
      · rename_i hl
        cases h
        refine ha σ ρ G F μ m H p.1 p.2 _ W E h1 fun vs G1 μ1 H1 W1 g1 r1 => ?_
        have r2 := datAll_rp r1 hds
        refine ⟨by rw [r2.length]; exact lim_sz hl, fun a ha => ?_⟩
        refine q _ _ (μ1 ++ [a]) _ (W1.newO ha r2) (g1.trans Gr.newO) (.obj ?_)
        rw [← W1.len, List.getElem?_append_right (Nat.le_refl _), Nat.sub_self]
        rfl
      · cases h
    · cases h
theorem de_tup {x1 : Nat} {t : TA} {g : ADen} (h : DA X es t g) : DE X (.Tuple es x1 pos) (tTup t) (dTup g) := ⟨pe_tup h.pa, den_tup h.dn⟩
theorem de_lst {t : TA} {g : ADen} (h : DA X es t g) : DE X (.List es pos) (tLst t) (dLst g) := ⟨pe_lst h.pa, den_lst h.dn⟩
theorem de_lstO {t : TA} {g : ADen} (h : DA X es t g) : DE X (.List es pos) (tLst t) (dLstO g) := ⟨pe_lst h.pa, den_lstO h.dn⟩

/-! operators -/
def dOp (op : Vl → Vl → Sto → Option (Vl × Sto)) (fa fb : EDen) : EDen := fun ρ m => (fa ρ m).bind fun p => (fb ρ p.2).bind fun q => op p.1 q.1 q.2
def dUn (op : Vl → Sto → Option (Vl × Sto)) (fa : EDen) : EDen := fun ρ m => (fa ρ m).bind fun p => op p.1 p.2
theorem den_op {r : R2} {op : Vl → Vl → Sto → Option (Vl × Sto)} (ho : Den2 K r op) (ha : DenE K ta fa) (hb : DenE K tb fb) : DenE K (tOp r ta tb) (dOp op fa fb) := by
  intro σ ρ G F μ m H x m' Q W E h q
  unfold dOp at h
  cases h1 : fa ρ m with
  | none => rw [h1] at h; cases h
  | some p =>
    rw [h1] at h
    simp only [Option.bind_some] at h
    cases h2 : fb ρ p.2 with
    | none => rw [h2] at h; cases h
    | some r =>
      rw [h2] at h
      simp only [Option.bind_some] at h
      refine ha σ ρ G F μ m H p.1 p.2 _ W E h1 fun v G1 μ1 H1 W1 g1 r1 => ?_
      refine hb σ ρ G1 F μ1 p.2 H1 r.1 r.2 _ W1 (E.mono g1) h2 fun u G2 μ2 H2 W2 g2 r2 => ?_
      exact ho G2 F μ2 r.2 H2 v u p.1 r.1 x m' Q W2 (r1.mono g2) r2 h (Aft.of q (g1.trans g2))
theorem den_un {r : V → Hp → VK → Prop} {op : Vl → Sto → Option (Vl × Sto)} (ho : Den1 K r op) (ha : DenE K ta fa) : DenE K (tUn r ta) (dUn op fa) := by
  intro σ ρ G F μ m H x m' Q W E h q
  unfold dUn at h
  cases h1 : fa ρ m with
  | none => rw [h1] at h; cases h
  | some p =>
    rw [h1] at h
    simp only [Option.bind_some] at h
    refine ha σ ρ G F μ m H p.1 p.2 _ W E h1 fun v G1 μ1 H1 W1 g1 r1 => ?_
    exact ho G1 F μ1 p.2 H1 v p.1 x m' Q W1 r1 h (Aft.of q g1)
/-- an operator: its rule and its denotation -/
structure OpD (X : Cx) (op : Operator) (r : R2) (g : Vl → Vl → Sto → Option (Vl × Sto)) : Prop where
  o : OpR X (binaryOp op) r
  d : Den2 X.K r g
structure CmpD (X : Cx) (op : CmpOp) (r : R2) (g : Vl → Vl → Sto → Option (Vl × Sto)) : Prop where
  o : OpR X (compareOp op) r
  d : Den2 X.K r g
structure UnD (X : Cx) (op : UnaryOp) (r : V → Hp → VK → Prop) (g : Vl → Sto → Option (Vl × Sto)) : Prop where
  o : UnR X (unaryOp op) r
  d : Den1 X.K r g
structure CalD (X : Cx) (v : Value) (r : List V → Hp → VK → Prop) (g : FDen) : Prop where
  o : CallR X v r
  d : DenC X.K r g
theorem de_op {op : Operator} {r : R2} {g : Vl → Vl → Sto → Option (Vl × Sto)} (ho : OpD X op r g) (ha : DE X a ta fa) (hb : DE X b tb fb) : DE X (.BinOp a op b pos) (tOp r ta tb) (dOp g fa fb) := ⟨pe_op ho.o ha.pe hb.pe, den_op ho.d ha.dn hb.dn⟩
theorem de_un {op : UnaryOp} {r : V → Hp → VK → Prop} {g : Vl → Sto → Option (Vl × Sto)} (ho : UnD X op r g) (ha : DE X a ta fa) : DE X (.UnaryOp op a pos) (tUn r ta) (dUn g fa) := ⟨pe_un ho.o ha.pe, den_un ho.d ha.dn⟩
theorem de_cmp {op : CmpOp} {r : R2} {g : Vl → Vl → Sto → Option (Vl × Sto)} (ho : CmpD X op r g) (ha : DE X a ta fa) (hb : DE X b tb fb) (hm : behindInMarks op b = false := by first | exact nomark _ | rfl) : DE X (.Compare a [op] [b] pos) (tOp r ta tb) (dOp g fa fb) :=
  ⟨pe_cmpR ho.o ha.pe hb.pe hm, den_op ho.d ha.dn hb.dn⟩

/-! calls of built-ins -/
def dCal (g : FDen) (fa : ADen) : EDen := fun ρ m => (fa ρ m).bind fun p => g p.1 p.2
theorem den_cb {r : List V → Hp → VK → Prop} {g : FDen} {t : TA} {fa : ADen} (ho : DenC K r g) (ha : DenA K t fa) : DenE K (tCB r t) (dCal g fa) := by
  intro σ ρ G F μ m H x m' Q W E h q
  unfold dCal at h
  cases h1 : fa ρ m with
  | none => rw [h1] at h; cases h
  | some p =>
    rw [h1] at h
    simp only [Option.bind_some] at h
    refine ha σ ρ G F μ m H p.1 p.2 _ W E h1 fun vs G1 μ1 H1 W1 g1 r1 => ?_
    exact ho G1 F μ1 p.2 H1 vs p.1 x m' Q W1 r1 h (Aft.of q g1)
theorem de_callB {x : Str} {p : Pos} {id : String} {r : List V → Hp → VK → Prop} {g : FDen} {t : TA} {fa : ADen} (hc : CalD X (.builtin id) r g) (hg : Gl X x) (hm : X.mg x = none) (hv : bootBuiltins x = some (.builtin id)) (ha : DA X (e :: es) t fa) (hn : x ≠ "__name__" := by decide) (hdb : (x == ("__debug__" : Str)) = false := by decide)
    (he : starEach (e :: es) X.env = (false, eval e X.env) :: starEach es X.env := by rfl) (hpl : (backTo pos (starEach es X.env)).any (·.1) = false := by rfl) : DE X (.Call (.Name x p) (e :: es) [] pos) (tCB r t) (dCal g fa) :=
  ⟨pe_callB hc.o hg hm hv ha.pa hn hdb he hpl, den_cb hc.d ha.dn⟩
theorem de_callTy {x : Str} {p : Pos} {id : String} {r : List V → Hp → VK → Prop} {g : FDen} {t : TA} {fa : ADen} (hc : CalD X (.type id) r g) (hg : Gl X x) (hm : X.mg x = none) (hv : bootBuiltins x = some (.type id)) (ha : DA X (e :: es) t fa) (hn : x ≠ "__name__" := by decide) (hdb : (x == ("__debug__" : Str)) = false := by decide)
    (he : starEach (e :: es) X.env = (false, eval e X.env) :: starEach es X.env := by rfl) (hpl : (backTo pos (starEach es X.env)).any (·.1) = false := by rfl) : DE X (.Call (.Name x p) (e :: es) [] pos) (tCB r t) (dCal g fa) :=
  ⟨pe_callTy hc.o hg hm hv ha.pa hn hdb he hpl, den_cb hc.d ha.dn⟩

/-! calls of defs -/
/-- the promise of a def with n parameters: its denotation -/
def spD (K : PySem.W.Frag) (n : Nat) (f : FDen) : Sp := fun vs H Q _ => vs.length = n ∧ ∃ (G F : Hp) (μ : List Addr) (m : Sto) (xs : List Vl) (x : Vl) (m' : Sto),
  Wd K G F μ m H ∧ RVAll K G μ vs xs ∧ f xs m = some (x, m') ∧ Aft K G F μ x m' Q
theorem den_call {n : Nat} {g : FDen} {t : TA} {fa : ADen} {E : XK} (ha : DenA K t fa) (hn : ∀ ρ m p, fa ρ m = some p → p.1.length = n) : DenE K (tCall (spD K n g) [] E t) (dCal g fa) := by
  intro σ ρ G F μ m H x m' Q W E h q
  unfold dCal at h
  cases h1 : fa ρ m with
  | none => rw [h1] at h; cases h
  | some p =>
    rw [h1] at h
    simp only [Option.bind_some] at h
    refine ha σ ρ G F μ m H p.1 p.2 _ W E h1 fun vs G1 μ1 H1 W1 g1 r1 => ?_
    refine ⟨by rw [List.append_nil, r1.length]; exact hn _ _ _ h1, G1, F, μ1, p.2, p.1, x, m', W1, by rw [List.append_nil]; exact r1, h, Aft.of q g1⟩
theorem len_nil : ∀ ρ m p, dNil ρ m = some p → p.1.length = 0 := fun _ _ _ h => by cases h; rfl
theorem len_cons {f : EDen} {g : ADen} {n : Nat} (h : ∀ ρ m p, g ρ m = some p → p.1.length = n) : ∀ ρ m p, dCons f g ρ m = some p → p.1.length = n + 1 := fun ρ m p q => by
  unfold dCons at q
  cases h1 : f ρ m with
  | none => rw [h1] at q; cases q
  | some a =>
    rw [h1] at q
    cases h2 : g ρ a.2 with
    | none => simp only [Option.bind_some, h2] at q; cases q
    | some b =>
      simp only [Option.bind_some, h2] at q
      cases q
      rw [List.length_cons, h _ _ _ h2]
/-- a def that stands at f, by its denotation -/
structure FnD (P : Program) (w : World) (K : PySem.W.Frag) (mg : Str → Option Value) (base : Heap) (x : Str) (ps : List Str) (g : FDen) (k : Nat) : Prop where
  fn : ∃ (f : Addr) (fd : FuncData), FnOk P w K mg base CX0 k f fd ps (spD K ps.length g) ∧ mg x = some (.ref f) ∧ PySem.W.keepIn K (.ref f) = true ∧ Binds K fd ps [] ∧ ∃ o, K.lookup f = some o ∧ o.data = .func fd
theorem de_call {x : Str} {p : Pos} {ps : List Str} {g : FDen} {k : Nat} {t : TA} {fa : ADen} (F : FnD X.prog X.w X.K X.mg X.base x ps g k) (hr : Room k X.A) (hg : Gl X x) (ha : DA X (e :: es) t fa) (hl : ∀ ρ m p, fa ρ m = some p → p.1.length = ps.length)
    (hdb : (x == ("__debug__" : Str)) = false := by decide) (he : starEach (e :: es) X.env = (false, eval e X.env) :: starEach es X.env := by rfl) (hpl : (backTo pos (starEach es X.env)).any (·.1) = false := by rfl) :
    DE X (.Call (.Name x p) (e :: es) [] pos) (tCall (spD X.K ps.length g) [] E0 t) (dCal g fa) := by
  obtain ⟨f, fd, h1, h2, h3, h4, _⟩ := F.fn
  exact ⟨pe_call h1 hr hg h2 h3 h4 .nil pass0 ha.pa hdb he hpl, den_call ha.dn hl⟩
/-! keywords: all arguments by name, in another order -/
theorem Aft.self {G F : Hp} {μ : List Addr} {x : Vl} {m' : Sto} {Q : VK} {v : V} {H : Hp} (a : Aft K G F μ x m' Q) (W : Wd K G F μ m' H) (r : RV K G μ v x) : Q v H := a v G μ H W (Gr.refl G μ) r

/-! and, or, not -/
def dAnd (fa fb : EDen) : EDen := fun ρ m => (fa ρ m).bind fun p => match p.1 with
  | .dat (.bl true) => fb ρ p.2
  | .dat (.bl false) => some (.dat (.bl false), p.2)
  | _ => none
def dOr (fa fb : EDen) : EDen := fun ρ m => (fa ρ m).bind fun p => match p.1 with
  | .dat (.bl false) => fb ρ p.2
  | .dat (.bl true) => some (.dat (.bl true), p.2)
  | _ => none
def dNot (fa : EDen) : EDen := fun ρ m => (fa ρ m).bind fun p => match p.1 with
  | .dat (.bl b) => some (.dat (.bl (!b)), p.2)
  | _ => none
theorem rv_bl {G : Hp} {μ : List Addr} {v : V} {b : Bool} (r : RV K G μ v (.dat (.bl b))) : v = .bl b := by cases r with | dat r => cases r; rfl
theorem den_and (ha : DenE K ta fa) (hb : DenE K tb fb) : DenE K (tAndV ta tb) (dAnd fa fb) := by
  intro σ ρ G F μ m H x m' Q W E h q
  unfold dAnd at h
  cases h1 : fa ρ m with
  | none => rw [h1] at h; cases h
  | some p =>
    rw [h1] at h
    obtain ⟨y, m1⟩ := p
    simp only [Option.bind_some] at h
    refine ha σ ρ G F μ m H y m1 _ W E h1 fun v G1 μ1 H1 W1 g1 r1 => ?_
    split at h
    · rw [rv_bl r1]
      refine ⟨true, rfl, ?_⟩
      rw [if_pos rfl]
      exact hb σ ρ G1 F μ1 m1 H1 x m' Q W1 (E.mono g1) h (Aft.of q g1)
    · rw [rv_bl r1]
      refine ⟨false, rfl, ?_⟩
      rw [if_neg Bool.false_ne_true]
      cases h
      exact q _ G1 μ1 H1 W1 g1 (.dat (.bl false))
    · cases h
theorem den_or (ha : DenE K ta fa) (hb : DenE K tb fb) : DenE K (tOrV ta tb) (dOr fa fb) := by
  intro σ ρ G F μ m H x m' Q W E h q
  unfold dOr at h
  cases h1 : fa ρ m with
  | none => rw [h1] at h; cases h
  | some p =>
    rw [h1] at h
    obtain ⟨y, m1⟩ := p
    simp only [Option.bind_some] at h
    refine ha σ ρ G F μ m H y m1 _ W E h1 fun v G1 μ1 H1 W1 g1 r1 => ?_
    split at h
    · rw [rv_bl r1]
      refine ⟨false, rfl, ?_⟩
      rw [if_neg Bool.false_ne_true]
      exact hb σ ρ G1 F μ1 m1 H1 x m' Q W1 (E.mono g1) h (Aft.of q g1)
    · rw [rv_bl r1]
      refine ⟨true, rfl, ?_⟩
      rw [if_pos rfl]
      cases h
      exact q _ G1 μ1 H1 W1 g1 (.dat (.bl true))
    · cases h
theorem den_not (ha : DenE K ta fa) : DenE K (tNotV ta) (dNot fa) := by
  intro σ ρ G F μ m H x m' Q W E h q
  unfold dNot at h
  cases h1 : fa ρ m with
  | none => rw [h1] at h; cases h
  | some p =>
    rw [h1] at h
    obtain ⟨y, m1⟩ := p
    simp only [Option.bind_some] at h
    refine ha σ ρ G F μ m H y m1 _ W E h1 fun v G1 μ1 H1 W1 g1 r1 => ?_
    split at h
    · rw [rv_bl r1]
      cases h
      exact ⟨_, rfl, q _ G1 μ1 H1 W1 g1 (.dat (.bl _))⟩
    · cases h
theorem de_one {op : BoolOp} (h : DE X a ta fa) : DE X (.BoolOp op [a] pos) ta fa := ⟨pe_one h.pe, h.dn⟩
theorem de_and {rest : List Expr} (ha : DE X a ta fa) (hb : DE X (.BoolOp .And (b :: rest) pos) tb fb) : DE X (.BoolOp .And (a :: b :: rest) pos) (tAndV ta tb) (dAnd fa fb) := ⟨pe_and ha.pe hb.pe, den_and ha.dn hb.dn⟩
theorem de_or {rest : List Expr} (ha : DE X a ta fa) (hb : DE X (.BoolOp .Or (b :: rest) pos) tb fb) : DE X (.BoolOp .Or (a :: b :: rest) pos) (tOrV ta tb) (dOr fa fb) := ⟨pe_or ha.pe hb.pe, den_or ha.dn hb.dn⟩
theorem de_not (ha : DE X a ta fa) : DE X (.UnaryOp .Not a pos) (tNotV ta) (dNot fa) := ⟨pe_not ha.pe, den_not ha.dn⟩

/-! tests -/
def dTst (fa : EDen) : TDen := fun ρ m => (fa ρ m).bind fun p => match p.1 with
  | .dat (.bl b) => some (b, p.2)
  | _ => none
theorem den_tst (ha : DenE K ta fa) : DenT K (tTest ta) (dTst fa) := by
  intro σ ρ G F μ m H b m' Q W E h q
  unfold dTst at h
  cases h1 : fa ρ m with
  | none => rw [h1] at h; cases h
  | some p =>
    rw [h1] at h
    obtain ⟨y, m1⟩ := p
    simp only [Option.bind_some] at h
    refine ha σ ρ G F μ m H y m1 _ W E h1 fun v G1 μ1 H1 W1 g1 r1 => ?_
    split at h
    · rw [rv_bl r1]
      cases h
      exact ⟨_, rfl, q G1 μ1 H1 W1 g1⟩
    · cases h
theorem den_tstB (ha : DenE K ta fa) : DenT K (tB ta) (dTst fa) := den_tst ha
/-- an expression whose value is a bool, as a test -/
theorem dt_val (h : DE X e te f) (he : ∀ whole, isTrue e X.env whole = (do let v ← whole; standAt e.pos; holding [v] (truthy v)) := by intro _; rfl) : DT X e (tB te) (dTst f) := ⟨pt_val h.pe he, den_tstB h.dn⟩
theorem dt_cmp {op : CmpOp} {r : R2} {g : Vl → Vl → Sto → Option (Vl × Sto)} (ho : CmpD X op r g) (ha : DE X a ta fa) (hb : DE X b tb fb) (hm : behindInMarks op b = false := by first | exact nomark _ | rfl) : DT X (.Compare a [op] [b] pos) (tTest (tOp r ta tb)) (dTst (dOp g fa fb)) :=
  ⟨pt_cmpR ho.o ha.pe hb.pe hm, den_tst (den_op ho.d ha.dn hb.dn)⟩
def dTAnd (f g : TDen) : TDen := fun ρ m => (f ρ m).bind fun p => if p.1 then g ρ p.2 else some (false, p.2)
def dTOr (f g : TDen) : TDen := fun ρ m => (f ρ m).bind fun p => if p.1 then some (true, p.2) else g ρ p.2
def dTNot (f : TDen) : TDen := fun ρ m => (f ρ m).bind fun p => some (!p.1, p.2)
theorem den_tand {t u : TT} {f g : TDen} (ha : DenT K t f) (hb : DenT K u g) : DenT K (tAnd t u) (dTAnd f g) := by
  intro σ ρ G F μ m H b m' Q W E h q
  unfold dTAnd at h
  cases h1 : f ρ m with
  | none => rw [h1] at h; cases h
  | some p =>
    rw [h1] at h
    obtain ⟨y, m1⟩ := p
    simp only [Option.bind_some] at h
    refine ha σ ρ G F μ m H y m1 _ W E h1 fun G1 μ1 H1 W1 g1 => ?_
    cases y with
    | true =>
      rw [if_pos rfl] at h ⊢
      exact hb σ ρ G1 F μ1 m1 H1 b m' Q W1 (E.mono g1) h fun G2 μ2 H2 W2 g2 => q G2 μ2 H2 W2 (g1.trans g2)
    | false =>
      rw [if_neg Bool.false_ne_true] at h ⊢
      cases h
      exact q G1 μ1 H1 W1 g1
theorem den_tor {t u : TT} {f g : TDen} (ha : DenT K t f) (hb : DenT K u g) : DenT K (tOr t u) (dTOr f g) := by
  intro σ ρ G F μ m H b m' Q W E h q
  unfold dTOr at h
  cases h1 : f ρ m with
  | none => rw [h1] at h; cases h
  | some p =>
    rw [h1] at h
    obtain ⟨y, m1⟩ := p
    simp only [Option.bind_some] at h
    refine ha σ ρ G F μ m H y m1 _ W E h1 fun G1 μ1 H1 W1 g1 => ?_
    cases y with
    | false =>
      rw [if_neg Bool.false_ne_true] at h ⊢
      exact hb σ ρ G1 F μ1 m1 H1 b m' Q W1 (E.mono g1) h fun G2 μ2 H2 W2 g2 => q G2 μ2 H2 W2 (g1.trans g2)
    | true =>
      rw [if_pos rfl] at h ⊢
      cases h
      exact q G1 μ1 H1 W1 g1
theorem den_tnot {t : TT} {f : TDen} (ha : DenT K t f) : DenT K (tNot t) (dTNot f) := by
  intro σ ρ G F μ m H b m' Q W E h q
  unfold dTNot at h
  cases h1 : f ρ m with
  | none => rw [h1] at h; cases h
  | some p =>
    rw [h1] at h
    obtain ⟨y, m1⟩ := p
    cases h
    exact ha σ ρ G F μ m H y m1 _ W E h1 fun G1 μ1 H1 W1 g1 => q G1 μ1 H1 W1 g1
theorem dw_and1 {t : TT} {f : TDen} (h : DT X a t f) : DW X (.BoolOp .And [a] pos) t f := ⟨pw_and1 h.pt, h.dn⟩
theorem dw_or1 {t : TT} {f : TDen} (h : DT X a t f) : DW X (.BoolOp .Or [a] pos) t f := ⟨pw_or1 h.pt, h.dn⟩
theorem dw_and {rest : List Expr} {t u : TT} {f g : TDen} (h : DT X a t f) (k : DW X (.BoolOp .And (b :: rest) pos) u g) : DW X (.BoolOp .And (a :: b :: rest) pos) (tAnd t u) (dTAnd f g) := ⟨pw_and h.pt k.pw, den_tand h.dn k.dn⟩
theorem dw_or {rest : List Expr} {t u : TT} {f g : TDen} (h : DT X a t f) (k : DW X (.BoolOp .Or (b :: rest) pos) u g) : DW X (.BoolOp .Or (a :: b :: rest) pos) (tOr t u) (dTOr f g) := ⟨pw_or h.pt k.pw, den_tor h.dn k.dn⟩
theorem dt_w {t : TT} {f : TDen} (h : DW X e t f) : DT X e t f := ⟨h.pw.pt, h.dn⟩
theorem dt_not {t : TT} {f : TDen} (h : DT X a t f) : DT X (.UnaryOp .Not a pos) (tNot t) (dTNot f) := ⟨pt_not h.pt, den_tnot h.dn⟩
/-- a if t else b -/
def dIf (c : TDen) (fa fb : EDen) : EDen := fun ρ m => (c ρ m).bind fun p => if p.1 then fa ρ p.2 else fb ρ p.2
theorem den_if {t : TT} {c : TDen} (hc : DenT K t c) (ha : DenE K ta fa) (hb : DenE K tb fb) : DenE K (tIf t ta tb) (dIf c fa fb) := by
  intro σ ρ G F μ m H x m' Q W E h q
  unfold dIf at h
  cases h1 : c ρ m with
  | none => rw [h1] at h; cases h
  | some p =>
    rw [h1] at h
    obtain ⟨y, m1⟩ := p
    simp only [Option.bind_some] at h
    refine hc σ ρ G F μ m H y m1 _ W E h1 fun G1 μ1 H1 W1 g1 => ?_
    cases y with
    | true =>
      rw [if_pos rfl] at h ⊢
      exact ha σ ρ G1 F μ1 m1 H1 x m' Q W1 (E.mono g1) h (Aft.of q g1)
    | false =>
      rw [if_neg Bool.false_ne_true] at h ⊢
      exact hb σ ρ G1 F μ1 m1 H1 x m' Q W1 (E.mono g1) h (Aft.of q g1)
theorem de_if {c : Expr} {t : TT} {fc : TDen} (hc : DT X c t fc) (ha : DE X a ta fa) (hb : DE X b tb fb) : DE X (.IfExp c a b pos) (tIf t ta tb) (dIf fc fa fb) := ⟨pe_ifExp hc.pt ha.pe hb.pe, den_if hc.dn ha.dn hb.dn⟩
end
end Dn
set_option Elab.async false
set_option linter.all false
set_option maxRecDepth 100000
namespace Dn
open PySem PySem.Spec PyProof.Rows L2

section
variable {X : Cx} {K : PySem.W.Frag} {e a b c : Expr} {es : List Expr} {te ta tb tc : TE} {f fa fb fc : EDen} {pos : Pos}
/-! chains -/
def dChain (g g' : Vl → Vl → Sto → Option (Vl × Sto)) (fa fb fc : EDen) : EDen := fun ρ m => (fa ρ m).bind fun p => (fb ρ p.2).bind fun q => (g p.1 q.1 q.2).bind fun r => match r.1 with
  | .dat (.bl true) => (fc ρ r.2).bind fun s => g' q.1 s.1 s.2
  | .dat (.bl false) => some (.dat (.bl false), r.2)
  | _ => none
theorem den_chain {r r' : R2} {g g' : Vl → Vl → Sto → Option (Vl × Sto)} (ho : Den2 K r g) (ho' : Den2 K r' g') (ha : DenE K ta fa) (hb : DenE K tb fb) (hc : DenE K tc fc) : DenE K (tChain r r' ta tb tc) (dChain g g' fa fb fc) := by
  intro σ ρ G F μ m H x m' Q W E h q
  unfold dChain at h
  cases h1 : fa ρ m with
  | none => rw [h1] at h; cases h
  | some p =>
  rw [h1] at h
  simp only [Option.bind_some] at h
  cases h2 : fb ρ p.2 with
  | none => rw [h2] at h; cases h
  | some r =>
  rw [h2] at h
  simp only [Option.bind_some] at h
  cases h3 : g p.1 r.1 r.2 with
  | none => rw [h3] at h; cases h
  | some d =>
  rw [h3] at h
  obtain ⟨y, m3⟩ := d
  simp only [Option.bind_some] at h
  refine ha σ ρ G F μ m H p.1 p.2 _ W E h1 fun v G1 μ1 H1 W1 g1 r1 => ?_
  refine hb σ ρ G1 F μ1 p.2 H1 r.1 r.2 _ W1 (E.mono g1) h2 fun u G2 μ2 H2 W2 g2 r2 => ?_
  refine ho G2 F μ2 r.2 H2 v u p.1 r.1 y m3 _ W2 (r1.mono g2) r2 h3 fun z G3 μ3 H3 W3 g3 r3 => ?_
  split at h
  · rw [rv_bl r3]
    refine ⟨true, rfl, ?_⟩
    rw [if_pos rfl]
    cases h4 : fc ρ m3 with
    | none => rw [h4] at h; cases h
    | some s =>
      rw [h4] at h
      simp only [Option.bind_some] at h
      refine hc σ ρ G3 F μ3 m3 H3 s.1 s.2 _ W3 (E.mono ((g1.trans g2).trans g3)) h4 fun w' G4 μ4 H4 W4 g4 r4 => ?_
      exact ho' G4 F μ4 s.2 H4 u w' r.1 s.1 x m' Q W4 (r2.mono (g3.trans g4)) r4 h (Aft.of q ((g1.trans g2).trans (g3.trans g4)))
  · rw [rv_bl r3]
    refine ⟨false, rfl, ?_⟩
    rw [if_neg Bool.false_ne_true]
    cases h
    exact q _ G3 μ3 H3 W3 ((g1.trans g2).trans g3) (.dat (.bl false))
  · cases h
theorem de_chain {op op' : CmpOp} {r r' : R2} {g g' : Vl → Vl → Sto → Option (Vl × Sto)} (ho : CmpD X op r g) (ho' : CmpD X op' r' g') (ha : DE X a ta fa) (hb : DE X b tb fb) (hc : DE X c tc fc)
    (hm : lastMarks [op, op'] [b, c] = false := by with_unfolding_all rfl) : DE X (.Compare a [op, op'] [b, c] pos) (tChain r r' ta tb tc) (dChain g g' fa fb fc) := ⟨pe_chain ho.o ho'.o ha.pe hb.pe hc.pe hm, den_chain ho.d ho'.d ha.dn hb.dn hc.dn⟩
theorem dt_chain {op op' : CmpOp} {r r' : R2} {g g' : Vl → Vl → Sto → Option (Vl × Sto)} (ho : CmpD X op r g) (ho' : CmpD X op' r' g') (ha : DE X a ta fa) (hb : DE X b tb fb) (hc : DE X c tc fc)
    (hm : lastMarks [op, op'] [b, c] = false := by with_unfolding_all rfl) : DT X (.Compare a [op, op'] [b, c] pos) (tTest (tChain r r' ta tb tc)) (dTst (dChain g g' fa fb fc)) := ⟨pt_chain ho.o ho'.o ha.pe hb.pe hc.pe hm, den_tst (den_chain ho.d ho'.d ha.dn hb.dn hc.dn)⟩

/-! items, slices -/
structure IxD (X : Cx) (r : R2) (g : Vl → Vl → Sto → Option (Vl × Sto)) : Prop where
  o : IxR X r
  d : Den2 X.K r g
theorem de_ix {r : R2} {g : Vl → Vl → Sto → Option (Vl × Sto)} (hr : IxD X r g) (ha : DE X a ta fa) (hb : DE X b tb fb) (hs : PlainIx b) : DE X (.Subscript a b pos) (tOp r ta tb) (dOp g fa fb) := ⟨pe_ix hr.o ha.pe hb.pe hs, den_op hr.d ha.dn hb.dn⟩
abbrev ODen := Envr → Sto → Option (Option Int × Sto)
def DenO (K : PySem.W.Frag) (to : TO) (f : ODen) : Prop := ∀ (σ : L2.St) (ρ : Envr) (G F : Hp) (μ : List Addr) (m : Sto) (H : Hp) (o : Option Int) (m' : Sto) (Q : Option Int → Hp → Prop),
  Wd K G F μ m H → ER K G μ σ ρ → f ρ m = some (o, m') → (∀ G' μ' H', Wd K G' F μ' m' H' → Gr G μ G' μ' → Q o H') → to σ H Q
structure DO (X : Cx) (e : Option Expr) (t : TO) (f : ODen) : Prop where
  po : PO X e t
  dn : DenO X.K t f
def dNoPart : ODen := fun _ m => some (none, m)
def dPart (f : EDen) : ODen := fun ρ m => (f ρ m).bind fun p => match p.1 with
  | .dat (.int i) => some (some i, p.2)
  | _ => none
theorem do_none : DO X none tNoPart dNoPart := ⟨po_none, by
  intro σ ρ G F μ m H o m' Q W E h q
  cases h
  exact q G μ H W (Gr.refl G μ)⟩
theorem rv_int {G : Hp} {μ : List Addr} {v : V} {b : Int} (r : RV K G μ v (.dat (.int b))) : v = .int b := by cases r with | dat r => cases r; rfl
theorem do_some (h : DE X e te f) : DO X (some e) (tPart te) (dPart f) := ⟨po_some h.pe, by
  intro σ ρ G F μ m H o m' Q W E h' q
  unfold dPart at h'
  cases h1 : f ρ m with
  | none => rw [h1] at h'; cases h'
  | some p =>
    rw [h1] at h'
    obtain ⟨y, m1⟩ := p
    simp only [Option.bind_some] at h'
    refine h.dn σ ρ G F μ m H y m1 _ W E h1 fun v G1 μ1 H1 W1 g1 r1 => ?_
    split at h'
    · cases h'
      rw [rv_int r1]
      exact ⟨_, rfl, q G1 μ1 H1 W1 g1⟩
    · cases h'⟩
def DenSl (K : PySem.W.Frag) (r : V → Option Int → Option Int → Hp → VK → Prop) (g : Vl → Option Int → Option Int → Sto → Option (Vl × Sto)) : Prop := ∀ (G F : Hp) (μ : List Addr) (m : Sto) (H : Hp) (v : V) (lo hi : Option Int) (x z : Vl) (m' : Sto) (Q : VK),
  Wd K G F μ m H → RV K G μ v x → g x lo hi m = some (z, m') → Aft K G F μ z m' Q → r v lo hi H Q
structure SlD (X : Cx) (r : V → Option Int → Option Int → Hp → VK → Prop) (g : Vl → Option Int → Option Int → Sto → Option (Vl × Sto)) : Prop where
  o : SlR X r
  d : DenSl X.K r g
def dSl (g : Vl → Option Int → Option Int → Sto → Option (Vl × Sto)) (fe : EDen) (fl fh : ODen) : EDen := fun ρ m => (fe ρ m).bind fun p => (fl ρ p.2).bind fun l => (fh ρ l.2).bind fun h => g p.1 l.1 h.1 h.2
theorem de_sl {lo hi : Option Expr} {tl th : TO} {fl fh : ODen} {p2 : Pos} {r : V → Option Int → Option Int → Hp → VK → Prop} {g : Vl → Option Int → Option Int → Sto → Option (Vl × Sto)} (hr : SlD X r g) (he : DE X e te f) (hl : DO X lo tl fl) (hu : DO X hi th fh) :
    DE X (.Subscript e (.Slice lo hi none p2) pos) (tSl r te tl th) (dSl g f fl fh) := ⟨pe_slice hr.o he.pe hl.po hu.po, by
  intro σ ρ G F μ m H x m' Q W E h q
  unfold dSl at h
  cases h1 : f ρ m with
  | none => rw [h1] at h; cases h
  | some p =>
  rw [h1] at h
  simp only [Option.bind_some] at h
  cases h2 : fl ρ p.2 with
  | none => rw [h2] at h; cases h
  | some l =>
  rw [h2] at h
  simp only [Option.bind_some] at h
  cases h3 : fh ρ l.2 with
  | none => rw [h3] at h; cases h
  | some u =>
  rw [h3] at h
  simp only [Option.bind_some] at h
  refine he.dn σ ρ G F μ m H p.1 p.2 _ W E h1 fun v G1 μ1 H1 W1 g1 r1 => ?_
  refine hl.dn σ ρ G1 F μ1 p.2 H1 l.1 l.2 _ W1 (E.mono g1) h2 fun G2 μ2 H2 W2 g2 => ?_
  refine hu.dn σ ρ G2 F μ2 l.2 H2 u.1 u.2 _ W2 (E.mono (g1.trans g2)) h3 fun G3 μ3 H3 W3 g3 => ?_
  exact hr.d G3 F μ3 u.2 H3 v l.1 u.1 p.1 x m' Q W3 (r1.mono (g2.trans g3)) h (Aft.of q ((g1.trans g2).trans g3))⟩

/-! ### statements -/
variable {st : Stmt} {rest : List Stmt} {t u : TS} {fs gs : SDen}
theorem endsOf.of {G G1 F : Hp} {μ μ1 : List Addr} {fl : Flw} {ρ' : Envr} {m' : Sto} {D : Ends} (h : endsOf K G F μ fl ρ' m' D) (g : Gr G μ G1 μ1) : endsOf K G1 F μ1 fl ρ' m' D := by
  cases fl with
  | nx => exact fun σ' G' μ' H' W g' e => h σ' G' μ' H' W (g.trans g') e
  | bk => exact fun σ' G' μ' H' W g' e => h σ' G' μ' H' W (g.trans g') e
  | ct => exact fun σ' G' μ' H' W g' e => h σ' G' μ' H' W (g.trans g') e
  | rt x => exact Aft.of h g
def dNext : SDen := fun ρ m => some (.nx, ρ, m)
theorem den_next : DenS K tNext dNext := by
  intro σ ρ G F μ m H fl ρ' m' D W E h q
  cases h
  exact q σ G μ H W (Gr.refl G μ) E
def dSeq (f g : SDen) : SDen := fun ρ m => (f ρ m).bind fun p => match p.1 with
  | .nx => g p.2.1 p.2.2
  | fl => some (fl, p.2.1, p.2.2)
theorem den_seq (h1 : DenS K t fs) (h2 : DenS K u gs) : DenS K (tSeq t u) (dSeq fs gs) := by
  intro σ ρ G F μ m H fl ρ' m' D W E h q
  unfold dSeq at h
  cases e1 : fs ρ m with
  | none => rw [e1] at h; cases h
  | some p =>
    obtain ⟨f1, ρ1, m1⟩ := p
    rw [e1] at h
    simp only [Option.bind_some] at h
    refine h1 σ ρ G F μ m H f1 ρ1 m1 _ W E e1 ?_
    cases f1 with
    | nx =>
      simp only at h
      exact fun σ' G' μ' H' W' g' E' => h2 σ' ρ1 G' F μ' m1 H' fl ρ' m' D W' E' h (q.of g')
    | bk => cases h; exact q
    | ct => cases h; exact q
    | rt x => cases h; exact q
theorem dss_nil : DSs X [] tNext dNext := ⟨pss_nil, den_next⟩
theorem dss_cons (h1 : DS X st t fs) (h2 : DSs X rest u gs) : DSs X (st :: rest) (tSeq t u) (dSeq fs gs) := ⟨pss_cons h1.ps h2.ps, den_seq h1.dn h2.dn⟩
theorem dss_one (h1 : DS X st t fs) : DSs X [st] t fs := ⟨pss_one h1.ps, h1.dn⟩
theorem ds_pass : DS X (.Pass pos) tNext dNext := ⟨ps_pass, den_next⟩
def dBrk : SDen := fun ρ m => some (.bk, ρ, m)
def dCont : SDen := fun ρ m => some (.ct, ρ, m)
theorem ds_break : DS X (.Break pos) tBreak dBrk := ⟨ps_break, by
  intro σ ρ G F μ m H fl ρ' m' D W E h q
  cases h
  exact q σ G μ H W (Gr.refl G μ) E⟩
theorem ds_continue : DS X (.Continue pos) tCont dCont := ⟨ps_continue, by
  intro σ ρ G F μ m H fl ρ' m' D W E h q
  cases h
  exact q σ G μ H W (Gr.refl G μ) E⟩
def dRet (f : EDen) : SDen := fun ρ m => (f ρ m).map fun p => (.rt p.1, ρ, p.2)
theorem ds_ret (h : DE X e te f) : DS X (.Return (some e) pos) (tRet te) (dRet f) := ⟨ps_ret h.pe, by
  intro σ ρ G F μ m H fl ρ' m' D W E h' q
  unfold dRet at h'
  cases e1 : f ρ m with
  | none => rw [e1] at h'; cases h'
  | some p =>
    rw [e1] at h'
    cases h'
    exact h.dn σ ρ G F μ m H p.1 p.2 _ W E e1 q⟩
def dRetN : SDen := fun ρ m => some (.rt (.dat .non), ρ, m)
theorem ds_retN : DS X (.Return none pos) tRetN dRetN := ⟨ps_retN, by
  intro σ ρ G F μ m H fl ρ' m' D W E h' q
  cases h'
  exact q _ G μ H W (Gr.refl G μ) (.dat .non)⟩
def dIfS (c : TDen) (f g : SDen) : SDen := fun ρ m => (c ρ m).bind fun p => if p.1 then f ρ p.2 else g ρ p.2
theorem ds_if {c : Expr} {a b : List Stmt} {tc : TT} {fc : TDen} (hc : DT X c tc fc) (ha : DSs X a t fs) (hb : DSs X b u gs) : DS X (.If c a b pos) (tIfS tc t u) (dIfS fc fs gs) := ⟨ps_if hc.pt ha.ps hb.ps, by
  intro σ ρ G F μ m H fl ρ' m' D W E h q
  unfold dIfS at h
  cases e1 : fc ρ m with
  | none => rw [e1] at h; cases h
  | some p =>
    obtain ⟨y, m1⟩ := p
    rw [e1] at h
    simp only [Option.bind_some] at h
    refine hc.dn σ ρ G F μ m H y m1 _ W E e1 fun G1 μ1 H1 W1 g1 => ?_
    cases y with
    | true =>
      rw [if_pos rfl] at h ⊢
      exact ha.dn σ ρ G1 F μ1 m1 H1 fl ρ' m' D W1 (E.mono g1) h (q.of g1)
    | false =>
      rw [if_neg Bool.false_ne_true] at h ⊢
      exact hb.dn σ ρ G1 F μ1 m1 H1 fl ρ' m' D W1 (E.mono g1) h (q.of g1)⟩
def dDrop (f : EDen) : SDen := fun ρ m => (f ρ m).map fun p => (.nx, ρ, p.2)
theorem ds_expr (h : DE X e te f) (hs : swapsWith e none pos.line X.env = pure false := by rfl) : DS X (.Expr e pos) (tDrop te) (dDrop f) := ⟨ps_expr h.pe hs, by
  intro σ ρ G F μ m H fl ρ' m' D W E h' q
  unfold dDrop at h'
  cases e1 : f ρ m with
  | none => rw [e1] at h'; cases h'
  | some p =>
    rw [e1] at h'
    cases h'
    exact h.dn σ ρ G F μ m H p.1 p.2 _ W E e1 fun v G' μ' H' W' g' r' => q σ G' μ' H' W' g' (E.mono g')⟩
def dSet (i : Nat) (f : EDen) : SDen := fun ρ m => (f ρ m).map fun p => (.nx, ρ.set i (some p.1), p.2)
theorem den_set {i : Nat} (h : DenE K te f) : DenS K (tAsg te (gName i)) (dSet i f) := by
  intro σ ρ G F μ m H fl ρ' m' D W E h' q
  unfold dSet at h'
  cases e1 : f ρ m with
  | none => rw [e1] at h'; cases h'
  | some p =>
    rw [e1] at h'
    cases h'
    exact h σ ρ G F μ m H p.1 p.2 _ W E e1 fun v G' μ' H' W' g' r' => q _ G' μ' H' W' g' ((E.mono g').set r' i)
theorem ds_set {i : Nat} {x : Str} {pos' : Pos} (hN : X.N.Nodup) (hi : X.N[i]? = some x) (hx : Loc X.env.scope x) (he : DE X e te f) (hs : swapsWith e (some (.Name x pos')) pos.line X.env = pure false := by rfl) (hf : X.fn x = true ∨ X.env.scope.names.lookup x = some .local := by first | exact .inl rfl | exact .inr rfl | assumption) :
    DS X (.Assign [.Name x pos'] e pos) (tAsg te (gName i)) (dSet i f) := ⟨ps_set hN hi hx he.pe hs hf, den_set he.dn⟩
/-- name op= e -/
def DenIp (K : PySem.W.Frag) (r : TIp) (g : Vl → Vl → Sto → Option (Vl × Sto)) : Prop := Den2 K r g
structure IpD (X : Cx) (op : Operator) (r : TIp) (g : Vl → Vl → Sto → Option (Vl × Sto)) : Prop where
  o : PIp X op r
  d : Den2 X.K r g
def dAug (i : Nat) (g : Vl → Vl → Sto → Option (Vl × Sto)) (f : EDen) : SDen := fun ρ m => match ρ[i]? with
  | some (some x) => (f ρ m).bind fun p => (g x p.1 p.2).map fun q => (.nx, ρ.set i (some q.1), q.2)
  | _ => none
theorem ds_aug {i : Nat} {x : Str} {op : Operator} {r : TIp} {g : Vl → Vl → Sto → Option (Vl × Sto)} {pos' : Pos} (hN : X.N.Nodup) (hi : X.N[i]? = some x) (hx : Loc X.env.scope x) (he : DE X e te f) (ho : IpD X op r g) (hf : X.fn x = true ∨ X.env.scope.names.lookup x = some .local := by first | exact .inl rfl | exact .inr rfl | assumption) :
    DS X (.AugAssign (.Name x pos') op e pos) (tAug i te r) (dAug i g f) := ⟨ps_aug hN hi hx he.pe ho.o hf, by
  intro σ ρ G F μ m H fl ρ' m' D W E h q
  unfold dAug at h
  split at h
  · rename_i y hy
    obtain ⟨v, ev, rv⟩ := E.at_ i y hy
    cases e1 : f ρ m with
    | none => rw [e1] at h; cases h
    | some p =>
      rw [e1] at h
      simp only [Option.bind_some] at h
      cases e2 : g y p.1 p.2 with
      | none => rw [e2] at h; cases h
      | some z =>
        rw [e2] at h
        cases h
        refine ⟨v, ev, he.dn σ ρ G F μ m H p.1 p.2 _ W E e1 fun w' G1 μ1 H1 W1 g1 r1 => ?_⟩
        exact ho.d G1 F μ1 p.2 H1 v w' y p.1 z.1 z.2 _ W1 (rv.mono g1) r1 e2 fun u' G2 μ2 H2 W2 g2 r2 => q _ G2 μ2 H2 W2 (g1.trans g2) ((E.mono (g1.trans g2)).set r2 i)
  · cases h⟩
/-- o[i] = e, o an object of the store -/
def dSetIx (fe fo fi : EDen) : SDen := fun ρ m => (fe ρ m).bind fun p => (fo ρ p.2).bind fun o => (fi ρ o.2).bind fun i => match p.1, o.1, i.1 with
  | .dat d, .obj k, .dat (.int z) => match i.2[k]? with
    | some (.lst ds) => match ixN ds.length z with
      | some j => some (.nx, ρ, i.2.set k (.lst (ds.set j d)))
      | none => none
    | _ => none
  | _, _, _ => none
theorem ds_setIx {o i : Expr} {to ti : TE} {fo fi : EDen} {spos : Pos} (he : DE X e te f) (ho : DE X o to fo) (hi : DE X i ti fi) (hs : swapsWithSole [.Subscript o i spos] e pos.line X.env = pure false := by rfl) (hw : swappedStores [.Subscript o i spos] e X.env = pure none := by rfl)
    (h1 : (assignEach [.Subscript o i spos] X.env).map (·.2) = [assign (.Subscript o i spos) X.env] := by rfl)
    (ha : ∀ v, assign (.Subscript o i spos) X.env v = (do
      let ov ← holding [v] (eval o X.env)
      let iv ← holding [v, ov] (eval i X.env)
      standAt spos
      holding [v, ov, iv] (setItem ov iv v)
      release [v, ov, iv] []) := by intro _; rfl) :
    DS X (.Assign [.Subscript o i spos] e pos) (tAsg te (gSub to ti rSetL)) (dSetIx f fo fi) := ⟨ps_asg he.pe (pg_sub ho.pe hi.pe set_list ha) hs hw h1, by
  intro σ ρ G F μ m H fl ρ' m' D W E h q
  unfold dSetIx at h
  cases e1 : f ρ m with
  | none => rw [e1] at h; cases h
  | some p =>
  rw [e1] at h
  simp only [Option.bind_some] at h
  cases e2 : fo ρ p.2 with
  | none => rw [e2] at h; cases h
  | some po =>
  rw [e2] at h
  simp only [Option.bind_some] at h
  cases e3 : fi ρ po.2 with
  | none => rw [e3] at h; cases h
  | some pi =>
  rw [e3] at h
  simp only [Option.bind_some] at h
  refine he.dn σ ρ G F μ m H p.1 p.2 _ W E e1 fun v G1 μ1 H1 W1 g1 r1 => ?_
  refine ho.dn σ ρ G1 F μ1 p.2 H1 po.1 po.2 _ W1 (E.mono g1) e2 fun ov G2 μ2 H2 W2 g2 r2 => ?_
  refine hi.dn σ ρ G2 F μ2 po.2 H2 pi.1 pi.2 _ W2 (E.mono (g1.trans g2)) e3 fun iv G3 μ3 H3 W3 g3 r3 => ?_
  split at h
  · rename_i d k z h4 h5 h6
    split at h
    · rename_i ds hk
      split at h
      · rename_i j hj
        cases h
        rw [h4] at r1
        rw [h5] at r2
        rw [h6] at r3
        cases r2 with
        | @obj _ a hm =>
        have hm3 := g3.at hm
        obtain ⟨vs, ea, ra⟩ := W3.lstAt hm3 hk
        rw [rv_int r3]
        cases r1 with
        | dat r1 =>
        refine ⟨a, vs, z, j, rfl, rfl, ea, by rw [ra.length]; exact hj, ?_⟩
        refine q σ G3 μ3 _ (W3.setO hm3 (ra.set (Rp.mono (g2.trans g3).g _ _ r1) j)) ((g1.trans g2).trans g3) (E.mono ((g1.trans g2).trans g3))
      · cases h
    · cases h
  · cases h⟩
/-- xs.append(e), xs an object of the store -/
def isL (m : Sto) : Vl → Bool
  | .obj k => match m[k]? with
    | some (.lst _) => true
    | _ => false
  | _ => false
def dAppend (fo fe : EDen) : EDen := fun ρ m => (fo ρ m).bind fun o => if isL o.2 o.1 then (fe ρ o.2).bind fun p => match o.1, p.1 with
    | .obj k, .dat d => match p.2[k]? with
      | some (.lst ds) => if lim ds.length then some (.dat .non, p.2.set k (.lst (ds ++ [d]))) else none
      | _ => none
    | _, _ => none
  else none
theorem de_append {o : Expr} {to : TE} {fo : EDen} {apos : Pos} (ho : DE X o to fo) (he : DE X e te f) (hp : PE X (.Call (.Attribute o "append" apos) [e] [] pos) (tBM X.K "list" rAppend to (tCons te tNil))) :
    DE X (.Call (.Attribute o "append" apos) [e] [] pos) (tBM X.K "list" rAppend to (tCons te tNil)) (dAppend fo f) := ⟨hp, by
  intro σ ρ G F μ m H x m' Q W E h q
  unfold dAppend at h
  cases e1 : fo ρ m with
  | none => rw [e1] at h; cases h
  | some po =>
  rw [e1] at h
  simp only [Option.bind_some] at h
  split at h
  · rename_i hisl
    cases e2 : f ρ po.2 with
    | none => rw [e2] at h; cases h
    | some p =>
    rw [e2] at h
    simp only [Option.bind_some] at h
    refine ho.dn σ ρ G F μ m H po.1 po.2 _ W E e1 fun ov G1 μ1 H1 W1 g1 r1 => ?_
    split at h
    · rename_i k d h4 h5
      split at h
      · rename_i ds hk
        split at h
        · rename_i hl
          cases h
          rw [h4] at r1 hisl
          cases r1 with
          | @obj _ a hm =>
          have hty : tyV X.K "list" (.ref a) H1 := by
            unfold isL at hisl
            simp only at hisl
            split at hisl
            · rename_i es hes
              obtain ⟨vs, e', _⟩ := W1.lstAt hm hes
              exact Or.inl ⟨rfl, vs, SqL.of e'⟩
            · cases hisl
          refine ⟨hty, ?_⟩
          refine he.dn σ ρ G1 F μ1 po.2 H1 p.1 p.2 _ W1 (E.mono g1) e2 fun v G2 μ2 H2 W2 g2 r2 => ?_
          have hm2 := g2.at hm
          obtain ⟨vs, ea, ra⟩ := W2.lstAt hm2 hk
          rw [h5] at r2
          cases r2 with
          | dat r2 =>
          refine ⟨a, vs, v, rfl, rfl, ea, by rw [ra.length]; exact lim_lt hl, ?_⟩
          exact q _ G2 μ2 _ (W2.setO hm2 (ra.append (.cons r2 .nil))) (g1.trans g2) (.dat .non)
        · cases h
      · cases h
    · cases h
  · cases h⟩
end
end Dn
set_option Elab.async false
set_option linter.all false
set_option maxRecDepth 100000
namespace Dn
open PySem PySem.Spec PyProof.Rows L2

/-! ### what is walked -/
structure Its where
  items : List D
  src : Option Nat
abbrev IDen := Envr → Sto → Option (Its × Sto)
def SrcOk (its : Its) (m : Sto) : Prop := ∀ i, its.src = some i → m[i]? = some (.lst its.items)
theorem SrcOk.no {its : Its} {m : Sto} (h : its.src = none) : SrcOk its m := fun i e => by rw [h] at e; cases e
noncomputable section
def srcB (its : Its) (m : Sto) : Bool := match its.src with
  | none => true
  | some i => @decide (m[i]? = some (MO.lst its.items)) (Classical.propDecidable _)
theorem srcB_ok {its : Its} {m : Sto} (h : srcB its m = true) : SrcOk its m := fun i e => by
  unfold srcB at h
  rw [e] at h
  exact @of_decide_eq_true _ (Classical.propDecidable _) h
@[simp] theorem srcB_none {l : List D} {m : Sto} : srcB ⟨l, none⟩ m = true := rfl
end
/-- an iterator gives these items, in every world from here on -/
def ItOk (K : PySem.W.Frag) (J : It) (G : Hp) (μ : List Addr) (its : Its) : Prop := ∀ (G' F' : Hp) (μ' : List Addr) (m' : Sto) (H' : Hp), Wd K G' F' μ' m' H' → Gr G μ G' μ' → SrcOk its m' → ∀ k : Nat,
  (∀ d, its.items[k]? = some d → J.go k H' ∧ ∀ x H'', J.yld k H' x H'' → ∃ G'', Wd K G'' F' μ' m' H'' ∧ Gr G' μ' G'' μ' ∧ Rp K G'' x d) ∧ (its.items.length = k → J.stop k H')
def DenI (K : PySem.W.Frag) (wi : TI) (f : IDen) : Prop := ∀ (σ : L2.St) (ρ : Envr) (G F : Hp) (μ : List Addr) (m : Sto) (H : Hp) (its : Its) (m' : Sto) (R : It → Hp → Prop),
  Wd K G F μ m H → ER K G μ σ ρ → f ρ m = some (its, m') → (∀ J G' μ' H', Wd K G' F μ' m' H' → Gr G μ G' μ' → SrcOk its m' → ItOk K J G' μ' its → R J H') → wi σ H R
structure DI (X : Cx) (tg e : Expr) (wi : TI) (f : IDen) : Prop where
  pi : PI X tg e wi
  dn : DenI X.K wi f
/-! targets: slots is -/
abbrev GDen := D → Envr → Option Envr
def DenG (K : PySem.W.Frag) (tg : TG) (g : GDen) (is : List Nat) : Prop := ∀ (σ : L2.St) (ρ : Envr) (G F : Hp) (μ : List Addr) (m : Sto) (H : Hp) (v : V) (d : D) (ρ' : Envr) (Q : L2.St → Hp → Prop),
  Wd K G F μ m H → ER K G μ σ ρ → Rp K G v d → g d ρ = some ρ' → (∀ σ', ER K G μ σ' ρ' → (∀ vs : List Nat, (∀ i ∈ is, i ∈ vs) → wipe σ' vs = wipe σ vs) → Q σ' H) → tg v σ H Q
structure DG (X : Cx) (e : Expr) (tg : TG) (g : GDen) (is : List Nat) : Prop where
  pg : PG X e tg
  dn : DenG X.K tg g is

theorem wipe_set {x : Option V} : ∀ {vs : List Nat} {σ : L2.St} {i : Nat}, i ∈ vs → wipe (σ.set i x) vs = wipe σ vs
  | [], _, _, h => nomatch h
  | v :: vs, σ, i, h => by
    unfold wipe
    by_cases hv : i ∈ vs
    · rw [wipe_set hv]
    · have e : i = v := by
        rcases List.mem_cons.mp h with e | e
        · exact e
        · exact absurd e hv
      subst e
      have key : ∀ (ws : List Nat) (τ : L2.St) (y : Option V), i ∉ ws → wipe (τ.set i y) ws = (wipe τ ws).set i y := by
        intro ws
        induction ws with
        | nil => intro τ y _; rfl
        | cons w ws ih =>
          intro τ y hn
          unfold wipe
          rw [List.mem_cons, not_or] at hn
          rw [ih τ y hn.2, List.set_comm _ _ hn.1]
      rw [key vs σ x hv, List.set_set]
theorem wipe_idem (σ : L2.St) : ∀ vs : List Nat, wipe (wipe σ vs) vs = wipe σ vs := by
  have key : ∀ (vs ws : List Nat), (∀ i ∈ ws, i ∈ vs) → wipe (wipe σ ws) vs = wipe σ vs := by
    intro vs ws
    induction ws with
    | nil => intro _; rfl
    | cons w ws ih =>
      intro h
      show wipe ((wipe σ ws).set w none) vs = wipe σ vs
      rw [wipe_set (h w List.mem_cons_self), ih fun i hi => h i (List.mem_cons_of_mem _ hi)]
  exact fun vs => key vs vs fun _ h => h

section
variable {X : Cx} {K : PySem.W.Frag} {e a b c : Expr} {es : List Expr} {te ta tb tc : TE} {f fa fb fc : EDen} {pos : Pos}
def gNm (i : Nat) : GDen := fun d ρ => some (ρ.set i (some (.dat d)))
theorem dg_name {i : Nat} {x : Str} (hN : X.N.Nodup) (hi : X.N[i]? = some x) (hx : Loc X.env.scope x) (hf : X.fn x = true ∨ X.env.scope.names.lookup x = some .local := by first | exact .inl rfl | exact .inr rfl | assumption) : DG X (.Name x pos) (gName i) (gNm i) [i] := ⟨pg_name hN hi hx hf, by
  intro σ ρ G F μ m H v d ρ' Q W E r h q
  cases h
  exact q _ (E.set (.dat r) i) fun vs hv => wipe_set (hv i (by simp))⟩
/-- several targets -/
abbrev GsDen := List D → Envr → Option Envr
def DenGs (K : PySem.W.Frag) (tg : TGs) (g : GsDen) (is : List Nat) : Prop := ∀ (σ : L2.St) (ρ : Envr) (G F : Hp) (μ : List Addr) (m : Sto) (H : Hp) (vs : List V) (ds : List D) (ρ' : Envr) (Q : L2.St → Hp → Prop),
  Wd K G F μ m H → ER K G μ σ ρ → RpAll K G vs ds → g ds ρ = some ρ' → (∀ σ', ER K G μ σ' ρ' → (∀ ws : List Nat, (∀ i ∈ is, i ∈ ws) → wipe σ' ws = wipe σ ws) → Q σ' H) → tg vs σ H Q
structure DGs (X : Cx) (es : List Expr) (tg : TGs) (g : GsDen) (is : List Nat) : Prop where
  pg : PGs X es tg
  dn : DenGs X.K tg g is
def gsNil : GsDen := fun ds ρ => match ds with
  | [] => some ρ
  | _ => none
def gsCons (g : GDen) (gs : GsDen) : GsDen := fun ds ρ => match ds with
  | d :: r => (g d ρ).bind fun ρ1 => gs r ρ1
  | [] => none
theorem dgs_nil : DGs X [] gNil gsNil [] := ⟨pgs_nil, by
  intro σ ρ G F μ m H vs ds ρ' Q W E r h q
  cases r with
  | nil => cases h; exact ⟨rfl, q σ E fun _ _ => rfl⟩
  | cons _ _ => cases h⟩
theorem dgs_cons {t : TG} {g : GDen} {us : TGs} {gs : GsDen} {is js : List Nat} (h1 : DG X e t g is) (h2 : DGs X es us gs js) (hs : (assignEach (e :: es) X.env).map (·.2) = assign e X.env :: (assignEach es X.env).map (·.2) := by rfl) :
    DGs X (e :: es) (gCons t us) (gsCons g gs) (is ++ js) := ⟨pgs_cons h1.pg h2.pg hs, by
  intro σ ρ G F μ m H vs ds ρ' Q W E r h q
  cases r with
  | nil => cases h
  | @cons v vs d ds r1 r2 =>
    unfold gsCons at h
    cases e1 : g d ρ with
    | none => simp only [e1] at h; cases h
    | some ρ1 =>
      simp only [e1, Option.bind_some] at h
      refine ⟨v, vs, rfl, h1.dn σ ρ G F μ m H v d ρ1 _ W E r1 e1 fun σ1 E1 w1 => ?_⟩
      refine h2.dn σ1 ρ1 G F μ m H vs ds ρ' _ W E1 r2 h fun σ2 E2 w2 => ?_
      exact q σ2 E2 fun ws hw => (w2 ws fun i hi => hw i (List.mem_append_right _ hi)).trans (w1 ws fun i hi => hw i (List.mem_append_left _ hi))⟩
/-- (a, b) = a tuple of that length -/
def gTp (n : Nat) (gs : GsDen) : GDen := fun d ρ => match d with
  | .tup ds => if ds.length = n then gs ds ρ else none
  | _ => none
theorem dg_tup {k : Nat} {t : TGs} {gs : GsDen} {is : List Nat} {n : Nat} (hc : X.calm = true) (h : DGs X es t gs is) (hn : (assignEach es X.env).length = n := by rfl) (hst : (assignEach es X.env).findIdx? (·.1) = none := by rfl) :
    DG X (.Tuple es k pos) (gTup X.K n t) (gTp n gs) is := ⟨pg_tup hc h.pg hn hst, by
  intro σ ρ G F μ m H v d ρ' Q W E r h' q
  unfold gTp at h'
  split at h'
  · rename_i ds
    split at h'
    · rename_i hl
      cases r with
      | @tup a xs _ hs ra =>
        exact ⟨a, xs, rfl, sub_sqt W.g hs, by rw [ra.length]; exact hl, h.dn σ ρ G F μ m H xs ds ρ' Q W E ra h' q⟩
    · cases h'
  · cases h'⟩

/-! iterables -/
/-- a list (a datum, an object of the store) -/
def iL (f : EDen) : IDen := fun ρ m => (f ρ m).bind fun p => match p.1 with
  | .dat (.lst l) => some (⟨l, none⟩, p.2)
  | .dat (.frl l) => some (⟨l, none⟩, p.2)
  | .obj i => match p.2[i]? with
    | some (.lst l) => some (⟨l, some i⟩, p.2)
    | _ => none
  | _ => none
def iT (f : EDen) : IDen := fun ρ m => (f ρ m).bind fun p => match p.1 with
  | .dat (.tup l) => some (⟨l, none⟩, p.2)
  | _ => none
theorem itl_ok {G : Hp} {μ : List Addr} {a : Addr} {xs : List V} {ds : List D} (hs : SqL K G a xs) (r : RpAll K G xs ds) : ItOk K (Itl K a) G μ ⟨ds, none⟩ := by
  intro G' F' μ' m' H' W g _ k
  have hs' : SqL K H' a xs := sub_sql (g.g.trans W.g) hs
  refine ⟨fun d hd => ?_, fun hk => ⟨xs, hs', by rw [r.length]; exact Nat.le_of_eq hk⟩⟩
  obtain ⟨v, hv, rv⟩ := r.get hd
  refine ⟨⟨xs, v, hs', hv⟩, fun x H'' hy => ?_⟩
  obtain ⟨rfl, hy⟩ := hy
  have e : x = v := Option.some.inj ((hy xs hs').symm.trans hv)
  subst e
  exact ⟨G', W, Gr.refl _ _, Rp.mono g.g _ _ rv⟩
theorem itt_ok {G : Hp} {μ : List Addr} {a : Addr} {xs : List V} {ds : List D} (hs : SqT K G a xs) (r : RpAll K G xs ds) : ItOk K (Itt K a) G μ ⟨ds, none⟩ := by
  intro G' F' μ' m' H' W g _ k
  have hs' : SqT K H' a xs := sub_sqt (g.g.trans W.g) hs
  refine ⟨fun d hd => ?_, fun hk => ⟨xs, hs', by rw [r.length]; exact Nat.le_of_eq hk⟩⟩
  obtain ⟨v, hv, rv⟩ := r.get hd
  refine ⟨⟨xs, v, hs', hv⟩, fun x H'' hy => ?_⟩
  obtain ⟨rfl, hy⟩ := hy
  have e : x = v := Option.some.inj ((hy xs hs').symm.trans hv)
  subst e
  exact ⟨G', W, Gr.refl _ _, Rp.mono g.g _ _ rv⟩
theorem ito_ok {G : Hp} {μ : List Addr} {a : Addr} {i : Nat} {ds : List D} (hm : μ[i]? = some a) : ItOk K (Itl K a) G μ ⟨ds, some i⟩ := by
  intro G' F' μ' m' H' W g so k
  obtain ⟨xs, e, r⟩ := W.lstAt (g.at hm) (so i rfl)
  refine ⟨fun d hd => ?_, fun hk => ⟨xs, SqL.of e, by rw [r.length]; exact Nat.le_of_eq hk⟩⟩
  obtain ⟨v, hv, rv⟩ := r.get hd
  refine ⟨⟨xs, v, SqL.of e, hv⟩, fun x H'' hy => ?_⟩
  obtain ⟨rfl, hy⟩ := hy
  have e : x = v := Option.some.inj ((hy xs (SqL.of e)).symm.trans hv)
  subst e
  exact ⟨G', W, Gr.refl _ _, rv⟩
theorem di_list {tg l : Expr} {tl : TE} (h : DE X l tl f) : DI X tg l (iList X.K tl) (iL f) := ⟨pi_list h.pe, by
  intro σ ρ G F μ m H its m' R W E h' q
  unfold iL at h'
  cases e1 : f ρ m with
  | none => rw [e1] at h'; cases h'
  | some p =>
    rw [e1] at h'
    obtain ⟨y, m1⟩ := p
    simp only [Option.bind_some] at h'
    refine h.dn σ ρ G F μ m H y m1 _ W E e1 fun v G1 μ1 H1 W1 g1 r1 => ?_
    split at h'
    · cases h'
      cases r1 with
      | dat r1 =>
      cases r1 with
      | @lst a xs _ hs ra =>
      exact ⟨a, rfl, ⟨xs, SqL.of (W1.g _ _ hs)⟩, q _ G1 μ1 H1 W1 g1 (SrcOk.no rfl) (itl_ok (SqL.of hs) ra)⟩
    · cases h'
      cases r1 with
      | dat r1 =>
      cases r1 with
      | @frl a xs _ hs ra =>
      exact ⟨a, rfl, ⟨xs, sub_sql W1.g hs⟩, q _ G1 μ1 H1 W1 g1 (SrcOk.no rfl) (itl_ok hs ra)⟩
    · rename_i i
      split at h'
      · rename_i l hl
        cases h'
        cases r1 with
        | @obj _ a hm =>
        obtain ⟨xs, ea, ra⟩ := W1.lstAt hm hl
        refine ⟨a, rfl, ⟨xs, SqL.of ea⟩, q _ G1 μ1 H1 W1 g1 (fun j ej => ?_) (ito_ok hm)⟩
        cases ej
        exact hl
      · cases h'
    · cases h'⟩
theorem di_tup {tg l : Expr} {tl : TE} (h : DE X l tl f) : DI X tg l (iTup X.K tl) (iT f) := ⟨pi_tup h.pe, by
  intro σ ρ G F μ m H its m' R W E h' q
  unfold iT at h'
  cases e1 : f ρ m with
  | none => rw [e1] at h'; cases h'
  | some p =>
    rw [e1] at h'
    obtain ⟨y, m1⟩ := p
    simp only [Option.bind_some] at h'
    refine h.dn σ ρ G F μ m H y m1 _ W E e1 fun v G1 μ1 H1 W1 g1 r1 => ?_
    split at h'
    · cases h'
      cases r1 with
      | dat r1 =>
      cases r1 with
      | @tup a xs _ hs ra =>
      exact ⟨a, rfl, ⟨xs, sub_sqt W1.g hs⟩, q _ G1 μ1 H1 W1 g1 (SrcOk.no rfl) (itt_ok hs ra)⟩
    · cases h'⟩
/-- a list or a tuple, whichever comes -/
theorem pi_or {tg l : Expr} {tl : TE} (hl : PE X l tl) : PI X tg l (fun σ H R => tl σ H fun x H1 => (∃ a, x = .ref a ∧ (∃ xs, SqL X.K H1 a xs) ∧ R (Itl X.K a) H1) ∨ ∃ a, x = .ref a ∧ (∃ xs, SqT X.K H1 a xs) ∧ R (Itt X.K a) H1) := by
  refine ⟨fun pins s σ H R I h => thn (hl.run pins s σ H _ I h) ?_⟩
  rintro v s1 ⟨x, H1, I1, r1, q1⟩
  have fresh : H1 s1.heap.objs.size = none := I1.hok.fresh (Nat.le_refl _)
  have kept : ∀ o : Obj, Inv X pins σ H1 { s1 with heap := s1.heap.push o } := fun o => I1.kept (t' := s1.toks) fun b u e => Heap.get?_push_of_some _ e
  have own : ∀ b ∈ [s1.heap.objs.size], FpOk X pins H1 b := by
    intro b hb
    rw [List.mem_singleton] at hb
    rw [hb]
    exact I1.fpOk (Nat.le_refl _) fresh
  rcases q1 with ⟨a, rfl, ⟨xs, hq⟩, q⟩ | ⟨a, rfl, ⟨xs, hq⟩, q⟩
  · cases r1
    obtain ⟨its, rv, p, _⟩ := I1.list hq
    exact wpAny_pyIter_list p.isList ⟨_, _, _, _, H1, rfl, kept _, turn_list a _, ⟨_, Heap.get?_push_size _ rfl, rfl, rfl⟩, own, q⟩
  · cases r1
    obtain ⟨its, rv, p, _⟩ := I1.tuple hq
    have p' : s1.heap.IsTuple a its.toArray := p
    exact wpAny_pyIter_tuple p' ⟨_, _, _, _, H1, rfl, kept _, turn_tuple a _, ⟨_, Heap.get?_push_size _ rfl, rfl, rfl⟩, own, q⟩
def iSeq (f : EDen) : IDen := fun ρ m => (f ρ m).bind fun p => match p.1 with
  | .dat (.lst l) => some (⟨l, none⟩, p.2)
  | .dat (.frl l) => some (⟨l, none⟩, p.2)
  | .dat (.tup l) => some (⟨l, none⟩, p.2)
  | .obj i => match p.2[i]? with
    | some (.lst l) => some (⟨l, some i⟩, p.2)
    | _ => none
  | _ => none
theorem di_seq {tg l : Expr} {tl : TE} (h : DE X l tl f) : DI X tg l (fun σ H R => tl σ H fun x H1 => (∃ a, x = .ref a ∧ (∃ xs, SqL X.K H1 a xs) ∧ R (Itl X.K a) H1) ∨ ∃ a, x = .ref a ∧ (∃ xs, SqT X.K H1 a xs) ∧ R (Itt X.K a) H1) (iSeq f) := ⟨pi_or h.pe, by
  intro σ ρ G F μ m H its m' R W E h' q
  unfold iSeq at h'
  cases e1 : f ρ m with
  | none => rw [e1] at h'; cases h'
  | some p =>
    rw [e1] at h'
    obtain ⟨y, m1⟩ := p
    simp only [Option.bind_some] at h'
    refine h.dn σ ρ G F μ m H y m1 _ W E e1 fun v G1 μ1 H1 W1 g1 r1 => ?_
    split at h'
    · cases h'
      cases r1 with
      | dat r1 =>
      cases r1 with
      | @lst a xs _ hs ra =>
      exact .inl ⟨a, rfl, ⟨xs, SqL.of (W1.g _ _ hs)⟩, q _ G1 μ1 H1 W1 g1 (SrcOk.no rfl) (itl_ok (SqL.of hs) ra)⟩
    · cases h'
      cases r1 with
      | dat r1 =>
      cases r1 with
      | @frl a xs _ hs ra =>
      exact .inl ⟨a, rfl, ⟨xs, sub_sql W1.g hs⟩, q _ G1 μ1 H1 W1 g1 (SrcOk.no rfl) (itl_ok hs ra)⟩
    · cases h'
      cases r1 with
      | dat r1 =>
      cases r1 with
      | @tup a xs _ hs ra =>
      exact .inr ⟨a, rfl, ⟨xs, sub_sqt W1.g hs⟩, q _ G1 μ1 H1 W1 g1 (SrcOk.no rfl) (itt_ok hs ra)⟩
    · rename_i i
      split at h'
      · rename_i l hl
        cases h'
        cases r1 with
        | @obj _ a hm =>
        obtain ⟨xs, ea, ra⟩ := W1.lstAt hm hl
        refine .inl ⟨a, rfl, ⟨xs, SqL.of ea⟩, q _ G1 μ1 H1 W1 g1 (fun j ej => ?_) (ito_ok hm)⟩
        cases ej
        exact hl
      · cases h'
    · cases h'⟩
/-- lo, lo + 1, .. -/
def upInts (lo : Int) (n : Nat) : List D := (List.range n).map fun (i : Nat) => D.int (lo + (i : Int))
theorem itr_ok {G : Hp} {μ : List Addr} (lo : Int) (n : Nat) : ItOk K (Itr lo n) G μ ⟨upInts lo n, none⟩ := by
  intro G' F' μ' m' H' W g _ k
  refine ⟨fun d hd => ?_, fun hk => ?_⟩
  · unfold upInts at hd
    rw [List.getElem?_map] at hd
    have hk : k < n := by
      cases q : (List.range n)[k]? with
      | none => simp only [q] at hd; cases hd
      | some j =>
        have := (List.getElem?_eq_some_iff.mp q).1
        simpa using this
    rw [List.getElem?_range hk] at hd
    cases hd
    refine ⟨hk, fun x H'' hy => ?_⟩
    obtain ⟨rfl, rfl⟩ := hy
    exact ⟨G', W, Gr.refl _ _, .int _⟩
  · have : (upInts lo n).length = n := by unfold upInts; rw [List.length_map, List.length_range]
    show n ≤ k
    rw [← this]; exact Nat.le_of_eq hk
def iR1 (f : EDen) : IDen := fun ρ m => (f ρ m).bind fun p => match p.1 with
  | .dat (.int j) => if decide (j < 1000000) && decide (-1000000 < j) then some (⟨upInts 0 j.toNat, none⟩, p.2) else none
  | _ => none
theorem di_range1 {tg a : Expr} {p pos : Pos} (hg : Gl X "range") (hm : X.mg "range" = none) (h : DE X a ta f) (hs1 : starEach [a] X.env = (false, eval a X.env) :: starEach [] X.env := by rfl) (hs : starEach [a] X.env = [(false, eval a X.env)] := by rfl) : DI X tg (.Call (.Name "range" p) [a] [] pos) (iRng1 (tCons ta tNil)) (iR1 f) :=
  ⟨pi_range1 hg hm (pa_cons h.pe pa_nil hs1) hs, by
  intro σ ρ G F μ m H its m' R W E h' q
  unfold iR1 at h'
  cases e1 : f ρ m with
  | none => rw [e1] at h'; cases h'
  | some p =>
    rw [e1] at h'
    obtain ⟨y, m1⟩ := p
    simp only [Option.bind_some] at h'
    refine h.dn σ ρ G F μ m H y m1 _ W E e1 fun v G1 μ1 H1 W1 g1 r1 => ?_
    split at h'
    · rename_i j
      split at h'
      · rename_i hj
        cases h'
        rw [Bool.and_eq_true, decide_eq_true_eq, decide_eq_true_eq] at hj
        rw [rv_int r1]
        exact ⟨j, rfl, by omega, by omega, q _ G1 μ1 H1 W1 g1 (SrcOk.no rfl) (itr_ok 0 j.toNat)⟩
      · cases h'
    · cases h'⟩
def iR2 (f g : EDen) : IDen := fun ρ m => (f ρ m).bind fun p => (g ρ p.2).bind fun q => match p.1, q.1 with
  | .dat (.int i), .dat (.int j) => if decide (i < 1000000) && decide (-1000000 < i) && (decide (j < 1000000) && decide (-1000000 < j)) then some (⟨upInts i (j - i).toNat, none⟩, q.2) else none
  | _, _ => none
theorem di_range2 {tg a b : Expr} {p pos : Pos} (hg : Gl X "range") (hm : X.mg "range" = none) (h : DE X a ta fa) (k : DE X b tb fb) (hs1 : starEach [a, b] X.env = (false, eval a X.env) :: starEach [b] X.env := by rfl) (hs3 : starEach [b] X.env = (false, eval b X.env) :: starEach [] X.env := by rfl)
    (hs : starEach [a, b] X.env = [(false, eval a X.env), (false, eval b X.env)] := by rfl) (hs2 : starEach [b] X.env = [(false, eval b X.env)] := by rfl) : DI X tg (.Call (.Name "range" p) [a, b] [] pos) (iRng2 (tCons ta (tCons tb tNil))) (iR2 fa fb) :=
  ⟨pi_range2 hg hm (pa_cons h.pe (pa_cons k.pe pa_nil hs3) hs1) hs hs2, by
  intro σ ρ G F μ m H its m' R W E h' q
  unfold iR2 at h'
  cases e1 : fa ρ m with
  | none => rw [e1] at h'; cases h'
  | some p =>
    rw [e1] at h'
    obtain ⟨y, m1⟩ := p
    simp only [Option.bind_some] at h'
    cases e2 : fb ρ m1 with
    | none => rw [e2] at h'; cases h'
    | some p2 =>
    rw [e2] at h'
    obtain ⟨y2, m2⟩ := p2
    simp only [Option.bind_some] at h'
    refine h.dn σ ρ G F μ m H y m1 _ W E e1 fun v G1 μ1 H1 W1 g1 r1 => ?_
    refine k.dn σ ρ G1 F μ1 m1 H1 y2 m2 _ W1 (E.mono g1) e2 fun v2 G2 μ2 H2 W2 g2 r2 => ?_
    split at h'
    · rename_i i j
      split at h'
      · rename_i hj
        cases h'
        simp only [Bool.and_eq_true, decide_eq_true_eq] at hj
        rw [rv_int r1, rv_int r2]
        exact ⟨i, j, rfl, ⟨by omega, by omega, by omega, by omega⟩, q _ G2 μ2 H2 W2 (g1.trans g2) (SrcOk.no rfl) (itr_ok i (j - i).toNat)⟩
      · cases h'
    · cases h'⟩

/-! ### for -/
noncomputable def dForL (g : GDen) (body : SDen) (its : Its) : List D → Envr → Sto → Option (Flw × Envr × Sto)
  | [], ρ, m => some (.nx, ρ, m)
  | d :: ds, ρ, m => (g d ρ).bind fun ρ1 => (body ρ1 m).bind fun p => match p.1 with
    | .nx => if srcB its p.2.2 then dForL g body its ds p.2.1 p.2.2 else none
    | .ct => if srcB its p.2.2 then dForL g body its ds p.2.1 p.2.2 else none
    | .bk => some (.nx, p.2.1, p.2.2)
    | .rt x => some (.rt x, p.2.1, p.2.2)
noncomputable def dFor (fi : IDen) (g : GDen) (body : SDen) : SDen := fun ρ m => (fi ρ m).bind fun p => dForL g body p.1 p.1.items ρ p.2
theorem den_for {wi : TI} {fi : IDen} {t : TG} {g : GDen} {is : List Nat} {tb : TS} {body : SDen} (hi : DenI K wi fi) (hg : DenG K t g is) (hb : DenS K tb body) : DenS K (tFor wi t tb) (dFor fi g body) := by
  intro σ ρ G F μ m H fl ρ' m' D W E h q
  unfold dFor at h
  cases e1 : fi ρ m with
  | none => rw [e1] at h; cases h
  | some p =>
    obtain ⟨its, m0⟩ := p
    rw [e1] at h
    simp only [Option.bind_some] at h
    refine hi σ ρ G F μ m H its m0 _ W E e1 fun J G0 μ0 H0 W0 g0 so0 ok => ?_
    refine ⟨fun i n σ1 H1 => n = its.items.length - i ∧ i ≤ its.items.length ∧ ∃ ρ1 G1 μ1 m1, Wd K G1 F μ1 m1 H1 ∧ Gr G0 μ0 G1 μ1 ∧ ER K G1 μ1 σ1 ρ1 ∧ SrcOk its m1 ∧ dForL g body its (its.items.drop i) ρ1 m1 = some (fl, ρ', m'),
      ⟨_, rfl, Nat.zero_le _, ρ, G0, μ0, m0, W0, Gr.refl _ _, E.mono g0, so0, by rw [List.drop_zero]; exact h⟩, ?_⟩
    rintro i n σ1 H1 ⟨rfl, hle, ρ1, G1, μ1, m1, W1, g1, E1, so1, e⟩
    have okk := ok G1 F μ1 m1 H1 W1 g1 so1 i
    by_cases hlt : i < its.items.length
    · refine .inr ?_
      have hd : its.items[i]? = some its.items[i] := List.getElem?_eq_getElem hlt
      obtain ⟨go, yl⟩ := okk.1 _ hd
      rw [List.drop_eq_getElem_cons hlt] at e
      unfold dForL at e
      cases e2 : g its.items[i] ρ1 with
      | none => rw [e2] at e; cases e
      | some ρ2 =>
      rw [e2] at e
      simp only [Option.bind_some] at e
      cases e3 : body ρ2 m1 with
      | none => rw [e3] at e; cases e
      | some p3 =>
      obtain ⟨f3, ρ3, m3⟩ := p3
      rw [e3] at e
      simp only [Option.bind_some] at e
      refine ⟨go, fun σ' H' => its.items.length - (i + 1) < its.items.length - i ∧ ∃ ρ1 G1 μ1 m1, Wd K G1 F μ1 m1 H' ∧ Gr G0 μ0 G1 μ1 ∧ ER K G1 μ1 σ' ρ1 ∧ SrcOk its m1 ∧ dForL g body its (its.items.drop (i + 1)) ρ1 m1 = some (fl, ρ', m'),
        fun σ' H' ⟨hl, N⟩ => ⟨_, hl, rfl, hlt, N⟩, fun x H2 hy => ?_⟩
      obtain ⟨G2, W2, g2, rx⟩ := yl x H2 hy
      refine hg σ1 ρ1 G2 F μ1 m1 H2 x _ ρ2 _ W2 (E1.mono g2) rx e2 fun σ2 E2 _ => ?_
      refine hb σ2 ρ2 G2 F μ1 m1 H2 f3 ρ3 m3 _ W2 E2 e3 ?_
      cases f3 with
      | nx =>
        simp only at e
        split at e
        · rename_i hs
          exact fun σ4 G4 μ4 H4 W4 g4 E4 => ⟨by omega, ρ3, G4, μ4, m3, W4, (g1.trans g2).trans g4, E4, srcB_ok hs, e⟩
        · cases e
      | ct =>
        simp only at e
        split at e
        · rename_i hs
          exact fun σ4 G4 μ4 H4 W4 g4 E4 => ⟨by omega, ρ3, G4, μ4, m3, W4, (g1.trans g2).trans g4, E4, srcB_ok hs, e⟩
        · cases e
      | bk =>
        cases e
        exact fun σ4 G4 μ4 H4 W4 g4 E4 => q σ4 G4 μ4 H4 W4 (((g0.trans g1).trans g2).trans g4) E4
      | rt x =>
        cases e
        exact Aft.of (G := G) q ((g0.trans g1).trans g2)
    · refine .inl ⟨okk.2 (by omega), ?_⟩
      rw [List.drop_of_length_le (by omega)] at e
      cases e
      exact q σ1 G1 μ1 H1 W1 (g0.trans g1) E1
theorem ds_for {tg iter : Expr} {body : List Stmt} {wi : TI} {fi : IDen} {t : TG} {g : GDen} {is : List Nat} {tb : TS} {fb : SDen} (hc : X.calm = true) (hp : PassesOwn (model X.prog X.w) X.A X.env X.xe) (hi : DI X tg iter wi fi) (hg : DG X tg t g is) (hb : DSs X body tb fb)
    (hs : ∀ x, foldedSetIterable iter X.env x = pure x := by intro _; rfl) : DS X (.For tg iter body [] pos) (tFor wi t tb) (dFor fi g fb) := ⟨ps_for hp hc hi.pi hg.pg hb.ps hs, den_for hi.dn hg.dn hb.dn⟩

/-! ### list comprehensions -/
noncomputable def dLcL (g : GDen) (t : TDen) (f : EDen) (its : Its) (ρ : Envr) : List D → Sto → Option (List D × Sto)
  | [], m => some ([], m)
  | d :: ds, m => (g d ρ).bind fun ρ1 => (t ρ1 m).bind fun b => if b.1 then (f ρ1 b.2).bind fun p => match p.1 with
      | .dat y => if srcB its p.2 then (dLcL g t f its ρ ds p.2).bind fun r => some (y :: r.1, r.2) else none
      | .obj _ => none
    else if srcB its b.2 then dLcL g t f its ρ ds b.2 else none
def dWipe (ρ : Envr) : List Nat → Envr
  | [] => ρ
  | v :: vs => (dWipe ρ vs).set v none
theorem ER.wipes {G : Hp} {μ : List Addr} {σ : L2.St} {ρ : Envr} (r : ER K G μ σ ρ) : ∀ vs : List Nat, ER K G μ (L2.wipe σ vs) (dWipe ρ vs)
  | [] => r
  | v :: vs => (ER.wipes r vs).wipe v
noncomputable def dLc (fi : IDen) (g : GDen) (t : TDen) (f : EDen) (vs : List Nat) : EDen := fun ρ m => (fi ρ m).bind fun p => if lim p.1.items.length then (dLcL g t f p.1 (dWipe ρ vs) p.1.items p.2).bind fun r => some (.dat (.lst r.1), r.2) else none
theorem dLcL_length {g : GDen} {t : TDen} {f : EDen} {its : Its} {ρ : Envr} : ∀ {ds : List D} {m : Sto} {r : List D × Sto}, dLcL g t f its ρ ds m = some r → r.1.length ≤ ds.length
  | [], m, r, h => by cases h; exact Nat.le_refl _
  | d :: ds, m, r, h => by
    unfold dLcL at h
    cases e1 : g d ρ with
    | none => rw [e1] at h; cases h
    | some ρ1 =>
    rw [e1] at h
    simp only [Option.bind_some] at h
    cases e2 : t ρ1 m with
    | none => rw [e2] at h; cases h
    | some b =>
    rw [e2] at h
    simp only [Option.bind_some] at h
    split at h
    · cases e3 : f ρ1 b.2 with
      | none => rw [e3] at h; cases h
      | some p =>
      rw [e3] at h
      simp only [Option.bind_some] at h
      split at h
      · split at h
        · cases e4 : dLcL g t f its ρ ds p.2 with
          | none => rw [e4] at h; cases h
          | some q =>
            rw [e4] at h
            cases h
            have := dLcL_length e4
            simp only [List.length_cons]
            omega
        · cases h
      · cases h
    · split at h
      · have := dLcL_length h
        simp only [List.length_cons]
        omega
      · cases h
theorem den_lc {wi : TI} {fi : IDen} {tg : TG} {g : GDen} {is : List Nat} {tt : TT} {ft : TDen} {vs : List Nat} (hi : DenI K wi fi) (hg : DenG K tg g is) (hv : ∀ i ∈ is, i ∈ vs) (ht : DenT K tt ft) (he : DenE K te f) : DenE K (tLc wi tg tt te vs) (dLc fi g ft f vs) := by
  intro σ ρ G F μ m H x m' Q W E h q
  unfold dLc at h
  cases e1 : fi ρ m with
  | none => rw [e1] at h; cases h
  | some p =>
  obtain ⟨its, m0⟩ := p
  rw [e1] at h
  simp only [Option.bind_some] at h
  split at h
  · rename_i hlim
    cases e2 : dLcL g ft f its (dWipe ρ vs) its.items m0 with
    | none => rw [e2] at h; cases h
    | some r =>
    rw [e2] at h
    obtain ⟨ys, mE⟩ := r
    cases h
    have hys := dLcL_length e2
    have hsz : its.items.length < sizeLine := lim_lt hlim
    refine hi σ ρ G F μ m H its m0 _ W E e1 fun J G0 μ0 H0 W0 g0 so0 ok => fun Dl hD => ?_
    have FD := W0.new_f hD
    refine ⟨fun i n H1 => n = its.items.length - i ∧ i ≤ its.items.length ∧ ∃ G1 μ1 m1 acc ds rest, Wd K G1 (upd F Dl (.lst acc)) μ1 m1 H1 ∧ Gr G0 μ0 G1 μ1 ∧ RpAll K G1 acc ds ∧ SrcOk its m1 ∧ acc.length ≤ i ∧ dLcL g ft f its (dWipe ρ vs) (its.items.drop i) m1 = some (rest, mE) ∧ ds ++ rest = ys,
      ⟨_, rfl, Nat.zero_le _, G0, μ0, m0, [], [], ys, W0.toF hD, Gr.refl _ _, .nil, so0, Nat.le_refl _, by rw [List.drop_zero]; exact e2, rfl⟩, ?_⟩
    rintro i n H1 ⟨rfl, hle, G1, μ1, m1, acc, ds, rest, W1, g1, ra, so1, hacc, e, hys'⟩
    have okk := ok G1 _ μ1 m1 H1 W1 g1 so1 i
    by_cases hlt : i < its.items.length
    · refine .inr ?_
      have hd : its.items[i]? = some its.items[i] := List.getElem?_eq_getElem hlt
      obtain ⟨go, yl⟩ := okk.1 _ hd
      rw [List.drop_eq_getElem_cons hlt] at e
      unfold dLcL at e
      cases e3 : g its.items[i] (dWipe ρ vs) with
      | none => rw [e3] at e; cases e
      | some ρ1 =>
      rw [e3] at e
      simp only [Option.bind_some] at e
      cases e4 : ft ρ1 m1 with
      | none => rw [e4] at e; cases e
      | some b =>
      obtain ⟨b, m2⟩ := b
      rw [e4] at e
      simp only [Option.bind_some] at e
      refine ⟨go, fun H' => its.items.length - (i + 1) < its.items.length - i ∧ ∃ G1 μ1 m1 acc ds rest, Wd K G1 (upd F Dl (.lst acc)) μ1 m1 H' ∧ Gr G0 μ0 G1 μ1 ∧ RpAll K G1 acc ds ∧ SrcOk its m1 ∧ acc.length ≤ i + 1 ∧ dLcL g ft f its (dWipe ρ vs) (its.items.drop (i + 1)) m1 = some (rest, mE) ∧ ds ++ rest = ys,
        fun H' ⟨hl, N⟩ => ⟨_, hl, rfl, hlt, N⟩, fun y H2 hy => ?_⟩
      obtain ⟨G2, W2, g2, rx⟩ := yl y H2 hy
      have E2 : ER K G2 μ1 (L2.wipe σ vs) (dWipe ρ vs) := ((E.mono g0).mono (g1.trans g2)).wipes vs
      refine hg (L2.wipe σ vs) (dWipe ρ vs) G2 _ μ1 m1 H2 y _ ρ1 _ W2 E2 rx e3 fun σ2 E3 hw => ?_
      refine ⟨(hw vs hv).trans (wipe_idem σ vs), ?_⟩
      refine ht σ2 ρ1 G2 _ μ1 m1 H2 b m2 _ W2 E3 e4 fun G3 μ3 H3 W3 g3 => ?_
      cases b with
      | true =>
        rw [if_pos rfl] at e ⊢
        cases e5 : f ρ1 m2 with
        | none => rw [e5] at e; cases e
        | some p5 =>
        obtain ⟨y5, m5⟩ := p5
        rw [e5] at e
        simp only [Option.bind_some] at e
        refine he σ2 ρ1 G3 _ μ3 m2 H3 y5 m5 _ W3 (E3.mono g3) e5 fun v G4 μ4 H4 W4 g4 r4 => ?_
        split at e
        · rename_i d5
          split at e
          · rename_i hs
            cases e6 : dLcL g ft f its (dWipe ρ vs) (its.items.drop (i + 1)) m5 with
            | none => rw [e6] at e; cases e
            | some r6 =>
            rw [e6] at e
            simp only [Option.bind_some] at e
            cases e
            cases r4 with
            | dat r4 =>
            refine ⟨acc, W4.inF, by omega, by omega, G4, μ4, m5, acc ++ [v], ds ++ [d5], r6.1, W4.setF, ((g1.trans g2).trans g3).trans g4, ?_, srcB_ok hs, ?_, e6, ?_⟩
            · exact (RpAll.mono ((g2.trans g3).trans g4).g _ _ ra).append (.cons r4 .nil)
            · rw [List.length_append]; show acc.length + 1 ≤ i + 1; omega
            · rw [List.append_assoc]; exact hys'
          · cases e
        · cases e
      | false =>
        rw [if_neg Bool.false_ne_true] at e ⊢
        split at e
        · rename_i hs
          exact ⟨by omega, G3, μ3, m2, acc, ds, rest, W3, (g1.trans g2).trans g3, RpAll.mono (g2.trans g3).g _ _ ra, srcB_ok hs, by omega, e, hys'⟩
        · cases e
    · refine .inl ⟨okk.2 (by omega), ?_⟩
      rw [List.drop_of_length_le (by omega)] at e
      cases e
      rw [List.append_nil] at hys'
      subst hys'
      obtain ⟨gp, Wf⟩ := W1.ofF FD
      exact q _ _ μ1 H1 Wf ((g0.trans g1).trans (Gr.new gp)) (.dat (rp_newL gp ra))
  · cases h
def dYes : TDen := fun _ m => some (true, m)
structure DTs (X : Cx) (ifs : List Expr) (t : TT) (f : TDen) : Prop where
  pt : PTs X ifs t
  dn : DenT X.K t f
theorem den_yes : DenT K tYes dYes := by
  intro σ ρ G F μ m H b m' Q W E h q
  cases h
  exact q G μ H W (Gr.refl _ _)
theorem dts_nil : DTs X [] tYes dYes := ⟨pts_nil, den_yes⟩
theorem dts_one {t : TT} {g : TDen} (h : DT X c t g) : DTs X [c] t g := ⟨pts_one h.pt, h.dn⟩
theorem de_lc {elt tg iter : Expr} {ifs : List Expr} {scope : Scope} {own : List (Str × Nat)} {wi : TI} {fi : IDen} {t : TG} {g : GDen} {is : List Nat} {tt : TT} {ft : TDen} (hc : X.calm = true) (hN : X.N.Nodup) (hi : DI X tg iter wi fi) (ok : BlkOk X.N X.env.scope scope own)
    (hg : ∀ (s : Shared) (H : Hp) (C : Addr) (cl : List (Str × Addr)) (fp : List Addr), DG (X.blk s H scope (compEnvC scope cl C X.env) fp) tg t g is) (hv : ∀ i ∈ is, i ∈ own.map (·.2)) (ht : ∀ (s : Shared) (H : Hp) (C : Addr) (cl : List (Str × Addr)) (fp : List Addr), DTs (X.blk s H scope (compEnvC scope cl C X.env) fp) ifs tt ft)
    (he : ∀ (s : Shared) (H : Hp) (C : Addr) (cl : List (Str × Addr)) (fp : List Addr), DE (X.blk s H scope (compEnvC scope cl C X.env) fp) elt te f) (hs : ∀ x, foldedSetIterable iter X.env x = pure x := by intro _; rfl) :
    DE X (.ListComp elt [⟨tg, iter, ifs, 0⟩] scope pos) (tLc wi t tt te (own.map (·.2))) (dLc fi g ft f (own.map (·.2))) :=
  ⟨pe_lc hc hN hi.pi ok (fun s H C cl fp => (hg s H C cl fp).pg) (fun s H C cl fp => (ht s H C cl fp).pt) (fun s H C cl fp => (he s H C cl fp).pe) hs,
    den_lc hi.dn (hg X.s_0 X.H_0 0 [] []).dn hv (ht X.s_0 X.H_0 0 [] []).dn (he X.s_0 X.H_0 0 [] []).dn⟩
end
end Dn
set_option Elab.async false
set_option linter.all false
set_option maxRecDepth 100000
namespace Dn
open PySem PySem.Spec PyProof.Rows L2

/-! ### operators on data -/
def lift2 (g : D → D → Option D) : Vl → Vl → Sto → Option (Vl × Sto) := fun x y m => match x, y with
  | .dat a, .dat b => (g a b).map fun d => (.dat d, m)
  | _, _ => none
def lift1 (g : D → Option D) : Vl → Sto → Option (Vl × Sto) := fun x m => match x with
  | .dat a => (g a).map fun d => (.dat d, m)
  | _ => none
section
variable {X : Cx} {K : PySem.W.Frag}
theorem den2 {r : R2} {g : D → D → Option D} (h : ∀ (G F : Hp) (μ : List Addr) (m : Sto) (H : Hp) (v u : V) (a b d : D) (Q : VK), Wd K G F μ m H → Rp K G v a → Rp K G u b → g a b = some d → Aft K G F μ (.dat d) m Q → r v u H Q) : Den2 K r (lift2 g) := by
  intro G F μ m H v u x y z m' Q W rx ry e q
  unfold lift2 at e
  split at e
  · rename_i a b
    cases rx with
    | dat rx =>
    cases ry with
    | dat ry =>
    cases h1 : g a b with
    | none => rw [h1] at e; cases e
    | some d => rw [h1] at e; cases e; exact h G F μ m H v u a b d Q W rx ry h1 q
  · cases e
theorem den1 {r : V → Hp → VK → Prop} {g : D → Option D} (h : ∀ (G F : Hp) (μ : List Addr) (m : Sto) (H : Hp) (v : V) (a d : D) (Q : VK), Wd K G F μ m H → Rp K G v a → g a = some d → Aft K G F μ (.dat d) m Q → r v H Q) : Den1 K r (lift1 g) := by
  intro G F μ m H v x z m' Q W rx e q
  unfold lift1 at e
  split at e
  · rename_i a
    cases rx with
    | dat rx =>
    cases h1 : g a with
    | none => rw [h1] at e; cases e
    | some d => rw [h1] at e; cases e; exact h G F μ m H v a d Q W rx h1 q
  · cases e
theorem Aft.dat {G F : Hp} {μ : List Addr} {m : Sto} {H : Hp} {Q : VK} {d : D} {v : V} (q : Aft K G F μ (.dat d) m Q) (W : Wd K G F μ m H) (r : Rp K G v d) : Q v H := q v G μ H W (Gr.refl G μ) (.dat r)
theorem Aft.newL {G F : Hp} {μ : List Addr} {m : Sto} {H : Hp} {Q : VK} {ds : List D} {vs : List V} {p : Addr} (q : Aft K G F μ (.dat (.lst ds)) m Q) (W : Wd K G F μ m H) (hp : H p = none) (r : RpAll K G vs ds) : Q (.ref p) (upd H p (.lst vs)) :=
  q _ _ μ _ (W.new hp) (Gr.new (W.new_g hp)) (.dat (rp_newL (W.new_g hp) r))
theorem Aft.newT {G F : Hp} {μ : List Addr} {m : Sto} {H : Hp} {Q : VK} {ds : List D} {vs : List V} {p : Addr} (q : Aft K G F μ (.dat (.tup ds)) m Q) (W : Wd K G F μ m H) (hp : H p = none) (r : RpAll K G vs ds) : Q (.ref p) (upd H p (.tup vs)) :=
  q _ _ μ _ (W.new hp) (Gr.new (W.new_g hp)) (.dat (rp_newT (W.new_g hp) r))

def addD : D → D → Option D
  | .int i, .int j => some (.int (i + j))
  | .str a, .str b => if lim (a.length + b.length) then some (.str (a ++ b)) else none
  | .tup a, .tup b => if lim (a.length + b.length) then some (.tup (a ++ b)) else none
  | .lst a, .lst b => if lim (a.length + b.length) then some (.lst (a ++ b)) else none
  | _, _ => none
def rAddS' : R2 := fun x y H Q => ∃ i j, x = .str i ∧ y = .str j ∧ i.length + j.length ≤ sizeLine ∧ Q (.str (i ++ j)) H
def rAddAll (K : PySem.W.Frag) : R2 := fun x y H Q => rI0 (fun i j => .int (i + j)) x y H Q ∨ rAddS' x y H Q ∨ rCatA K x y H Q ∨ rCat x y H Q
theorem opd_add : OpD X .Add (rAddAll X.K) (lift2 addD) := ⟨op_add.or (OpR.or (r := rAddS') op_add_str (op_catA.or op_cat)), den2 fun G F μ m H v u a b d Q W ra rb e q => by
  unfold addD at e
  split at e
  · cases e
    cases ra
    cases rb
    exact .inl ⟨_, _, rfl, rfl, q.dat W (.int _)⟩
  · split at e
    · rename_i hl
      cases e
      cases ra
      cases rb
      exact .inr (.inl ⟨_, _, rfl, rfl, lim_sz hl, q.dat W (.str _)⟩)
    · cases e
  · rename_i xs ys
    split at e
    · rename_i hl
      cases e
      cases ra with
      | @tup a vs _ ha r1 =>
      cases rb with
      | @tup b ws _ hb r2 =>
      refine .inr (.inr (.inl ⟨a, b, vs, ws, rfl, rfl, sub_sqt W.g ha, sub_sqt W.g hb, by rw [r1.length, r2.length]; exact lim_sz hl, fun e => ?_, fun _ e => ?_, fun _ _ p hp => q.newT W hp (r1.append r2)⟩))
      · subst e
        cases r1
        exact q.dat W (.tup hb r2)
      · subst e
        cases r2
        rw [List.append_nil] at q
        exact q.dat W (.tup ha r1)
    · cases e
  · rename_i xs ys
    split at e
    · rename_i hl
      cases e
      cases ra with
      | @lst a vs _ ha r1 =>
      cases rb with
      | @lst b ws _ hb r2 =>
      exact .inr (.inr (.inr ⟨a, b, vs, ws, rfl, rfl, W.g _ _ ha, W.g _ _ hb, by rw [r1.length, r2.length]; exact lim_sz hl, fun p hp => q.newL W hp (r1.append r2)⟩))
    · cases e
  · cases e⟩
def subD : D → D → Option D
  | .int i, .int j => some (.int (i - j))
  | _, _ => none
theorem opd_sub : OpD X .Sub (rI0 fun i j => .int (i - j)) (lift2 subD) := ⟨op_sub, den2 fun G F μ m H v u a b d Q W ra rb e q => by
  unfold subD at e
  split at e
  · cases e
    cases ra
    cases rb
    exact ⟨_, _, rfl, rfl, q.dat W (.int _)⟩
  · cases e⟩
/-- below 2^64 -/
def sml (i : Int) : Bool := decide (-(2 ^ 64) < i) && decide (i < 2 ^ 64)
theorem sml_iff {i : Int} : sml i = true ↔ (-(2 ^ 64) < i ∧ i < 2 ^ 64) := by
  unfold sml
  rw [Bool.and_eq_true, decide_eq_true_eq, decide_eq_true_eq]
def repL (k : Nat) (l : List D) : List D := (List.replicate k l).flatten
theorem RpAll.rep {G : Hp} {vs : List V} {ds : List D} (r : RpAll K G vs ds) : ∀ k : Nat, RpAll K G (List.replicate k vs).flatten (repL k ds)
  | 0 => .nil
  | k + 1 => by
    unfold repL
    rw [List.replicate_succ, List.replicate_succ, List.flatten_cons, List.flatten_cons]
    exact r.append (RpAll.rep r k)
def mulD : D → D → Option D
  | .int i, .int j => if sml i || sml j then some (.int (i * j)) else none
  | .lst l, .int k => if decide (-1000000 < k) && decide (k < 1000000) && lim (l.length * k.toNat) then some (.lst (repL k.toNat l)) else none
  | _, _ => none
theorem opd_mul : OpD X .Mult (fun x y H Q => rI CMul (fun i j => .int (i * j)) x y H Q ∨ rRep x y H Q) (lift2 mulD) := ⟨op_mul.or op_rep, den2 fun G F μ m H v u a b d Q W ra rb e q => by
  unfold mulD at e
  split at e
  · split at e
    · rename_i hs
      cases e
      cases ra
      cases rb
      refine .inl ⟨_, _, rfl, rfl, ?_, q.dat W (.int _)⟩
      rw [Bool.or_eq_true, sml_iff, sml_iff] at hs
      exact hs
    · cases e
  · split at e
    · rename_i hs
      cases e
      simp only [Bool.and_eq_true, decide_eq_true_eq] at hs
      cases ra with
      | @lst a vs _ ha r1 =>
      cases rb
      exact .inr ⟨a, _, vs, rfl, rfl, W.g _ _ ha, by omega, by omega, by rw [r1.length]; exact lim_sz hs.2, fun p hp => q.newL W hp (r1.rep _)⟩
    · cases e
  · cases e⟩
def divD : D → D → Option D
  | .int i, .int j => if decide (0 < j) && decide (j < 1073741824) then some (.int (i / j)) else none
  | _, _ => none
theorem opd_div : OpD X .FloorDiv (rI CDiv fun i j => .int (i / j)) (lift2 divD) := ⟨op_fdiv, den2 fun G F μ m H v u a b d Q W ra rb e q => by
  unfold divD at e
  split at e
  · split at e
    · rename_i hs
      cases e
      simp only [Bool.and_eq_true, decide_eq_true_eq] at hs
      cases ra
      cases rb
      exact ⟨_, _, rfl, rfl, hs, q.dat W (.int _)⟩
    · cases e
  · cases e⟩
def modD : D → D → Option D
  | .int i, .int j => if decide (0 < j) then some (.int (i % j)) else none
  | _, _ => none
theorem opd_mod : OpD X .Mod (rI (fun _ j => 0 < j) fun i j => .int (i % j)) (lift2 modD) := ⟨op_mod, den2 fun G F μ m H v u a b d Q W ra rb e q => by
  unfold modD at e
  split at e
  · split at e
    · rename_i hs
      cases e
      cases ra
      cases rb
      exact ⟨_, _, rfl, rfl, of_decide_eq_true hs, q.dat W (.int _)⟩
    · cases e
  · cases e⟩
def powD : D → D → Option D
  | .int i, .int j => if decide (0 ≤ j) && decide (j ≤ 1000) && decide (i.natAbs < 2 ^ 64) then some (.int (i ^ j.toNat)) else none
  | _, _ => none
theorem opd_pow : OpD X .Pow (rI CPow fun i j => .int (i ^ j.toNat)) (lift2 powD) := ⟨op_pow, den2 fun G F μ m H v u a b d Q W ra rb e q => by
  unfold powD at e
  split at e
  · split at e
    · rename_i hs
      cases e
      simp only [Bool.and_eq_true, decide_eq_true_eq] at hs
      cases ra
      cases rb
      exact ⟨_, _, rfl, rfl, ⟨hs.1.1, by omega, hs.2⟩, q.dat W (.int _)⟩
    · cases e
  · cases e⟩
def negD : D → Option D
  | .int i => some (.int (-i))
  | _ => none
theorem und_neg : UnD X .USub (rU fun i => .int (-i)) (lift1 negD) := ⟨un_neg, den1 fun G F μ m H v a d Q W ra e q => by
  unfold negD at e
  split at e
  · cases e
    cases ra
    exact ⟨_, rfl, q.dat W (.int _)⟩
  · cases e⟩
/-! comparisons of ints -/
def cmpI (p : Int → Int → Bool) : D → D → Option D
  | .int i, .int j => some (.bl (p i j))
  | _, _ => none
theorem den_cmpI (p : Int → Int → Bool) : Den2 K (rI0 fun i j => .bl (p i j)) (lift2 (cmpI p)) := den2 fun G F μ m H v u a b d Q W ra rb e q => by
  unfold cmpI at e
  split at e
  · cases e
    cases ra
    cases rb
    exact ⟨_, _, rfl, rfl, q.dat W (.bl _)⟩
  · cases e
theorem cmd_lt : CmpD X .Lt (rI0 fun i j => .bl (decide (i < j))) (lift2 (cmpI fun i j => decide (i < j))) := ⟨op_lt, den_cmpI _⟩
theorem cmd_le : CmpD X .LtE (rI0 fun i j => .bl (decide (i ≤ j))) (lift2 (cmpI fun i j => decide (i ≤ j))) := ⟨op_le, den_cmpI _⟩
theorem cmd_gt : CmpD X .Gt (rI0 fun i j => .bl (decide (j < i))) (lift2 (cmpI fun i j => decide (j < i))) := ⟨op_gt, den_cmpI fun i j => decide (j < i)⟩
theorem cmd_ge : CmpD X .GtE (rI0 fun i j => .bl (decide (j ≤ i))) (lift2 (cmpI fun i j => decide (j ≤ i))) := ⟨op_ge, den_cmpI fun i j => decide (j ≤ i)⟩
/-- is, of bools -/
def isB : D → D → Option D
  | .bl a, .bl b => some (.bl (decide (a = b)))
  | _, _ => none
theorem cmd_isB : CmpD X .Is rIsB (lift2 isB) := ⟨op_isBl, den2 fun G F μ m H v u a b d Q W ra rb e q => by
  unfold isB at e
  split at e
  · cases e
    cases ra
    cases rb
    exact ⟨_, _, rfl, rfl, q.dat W (.bl _)⟩
  · cases e⟩

/-! ### == of data -/
mutual
def toPy : D → Option PyData
  | .non => some .none
  | .bl b => some (.bool b)
  | .int i => some (.int i)
  | .str s => some (.str s)
  | .lst l => (toPyAll l).map .list
  | .frl l => (toPyAll l).map .list
  | .tup l => (toPyAll l).map .tuple
  | _ => none
def toPyAll : List D → Option (List PyData)
  | [] => some []
  | d :: ds => (toPy d).bind fun p => (toPyAll ds).map fun r => p :: r
end
mutual
theorem toPy_dp {G : Hp} : ∀ (d : D) (v : V) (p : PyData), Rp K G v d → toPy d = some p → Dp K G v p
  | .non, _, _, r, e => by
    cases r
    unfold toPy at e
    cases e
    exact .non
  | .bl _, _, _, r, e => by
    cases r
    unfold toPy at e
    cases e
    exact .bl _
  | .int _, _, _, r, e => by
    cases r
    unfold toPy at e
    cases e
    exact .int _
  | .str _, _, _, r, e => by
    cases r
    unfold toPy at e
    cases e
    exact .str _
  | .ty _, _, _, r, e => by unfold toPy at e; cases e
  | .dct _ _, _, _, r, e => by unfold toPy at e; cases e
  | .lst l, _, _, r, e => by
    cases r with
    | lst h ra =>
    unfold toPy at e
    cases h1 : toPyAll l with
    | none => rw [h1] at e; cases e
    | some ps => rw [h1] at e; cases e; exact .lst (SqL.of h) (toPy_dpAll l _ _ ra h1)
  | .frl l, _, _, r, e => by
    cases r with
    | frl h ra =>
    unfold toPy at e
    cases h1 : toPyAll l with
    | none => rw [h1] at e; cases e
    | some ps => rw [h1] at e; cases e; exact .lst h (toPy_dpAll l _ _ ra h1)
  | .tup l, _, _, r, e => by
    cases r with
    | tup h ra =>
    unfold toPy at e
    cases h1 : toPyAll l with
    | none => rw [h1] at e; cases e
    | some ps => rw [h1] at e; cases e; exact .tup h (toPy_dpAll l _ _ ra h1)
theorem toPy_dpAll {G : Hp} : ∀ (ds : List D) (vs : List V) (ps : List PyData), RpAll K G vs ds → toPyAll ds = some ps → DpAll K G vs ps
  | [], _, _, r, e => by
    cases r
    unfold toPyAll at e
    cases e
    exact .nil
  | d :: ds, _, _, r, e => by
    cases r with
    | cons r1 r2 =>
    unfold toPyAll at e
    cases h1 : toPy d with
    | none => rw [h1] at e; cases e
    | some p =>
      rw [h1] at e
      simp only [Option.bind_some] at e
      cases h2 : toPyAll ds with
      | none => rw [h2] at e; cases e
      | some ps => rw [h2] at e; cases e; exact .cons (toPy_dp d _ _ r1 h1) (toPy_dpAll ds _ _ r2 h2)
end
mutual
theorem Dp.up {G H : Hp} (h : Sub G H) : ∀ (p : PyData) (v : V), Dp K G v p → Dp K H v p
  | .none, _, r => by cases r; exact .non
  | .bool _, _, r => by cases r; exact .bl _
  | .int _, _, r => by cases r; exact .int _
  | .str _, _, r => by cases r; exact .str _
  | .list l, _, r => by cases r with | lst q ra => exact .lst (sub_sql h q) (DpAll.up h l _ ra)
  | .tuple l, _, r => by cases r with | tup q ra => exact .tup (sub_sqt h q) (DpAll.up h l _ ra)
  | .dict _, _, r => by cases r
theorem DpAll.up {G H : Hp} (h : Sub G H) : ∀ (ps : List PyData) (vs : List V), DpAll K G vs ps → DpAll K H vs ps
  | [], _, r => by cases r; exact .nil
  | p :: ps, _, r => by cases r with | cons r1 r2 => exact .cons (Dp.up h p _ r1) (DpAll.up h ps _ r2)
end
def shap (d : D) : Option PyData := (toPy d).bind fun p => if SeqAt.shaped p then some p else none
theorem shap_ok {d : D} {p : PyData} (h : shap d = some p) : toPy d = some p ∧ SeqAt.shaped p = true := by
  unfold shap at h
  cases h1 : toPy d with
  | none => rw [h1] at h; cases h
  | some q =>
    rw [h1] at h
    simp only [Option.bind_some] at h
    split at h
    · cases h; exact ⟨rfl, by assumption⟩
    · cases h
/-- ==, where both can be told as data -/
def eqD (x y : D) : Option Bool := (shap x).bind fun p => (shap y).bind fun q => some (PyData.eqv p q)
theorem den_eqD : Den2 K (rEqD K) (lift2 fun x y => (eqD x y).map .bl) := den2 fun G F μ m H v u a b d Q W ra rb e q => by
  unfold eqD at e
  cases h1 : shap a with
  | none => rw [h1] at e; cases e
  | some p1 =>
  rw [h1] at e
  cases h2 : shap b with
  | none => simp only [Option.bind_some, h2] at e; cases e
  | some p2 =>
  simp only [Option.bind_some, h2] at e
  cases e
  obtain ⟨t1, s1⟩ := shap_ok h1
  obtain ⟨t2, s2⟩ := shap_ok h2
  exact ⟨p1, p2, Dp.up W.g _ _ (toPy_dp a v p1 ra t1), Dp.up W.g _ _ (toPy_dp b u p2 rb t2), s1, s2, q.dat W (.bl _)⟩
theorem den_neD : Den2 K (rNeD K) (lift2 fun x y => (eqD x y).map fun b => .bl (!b)) := den2 fun G F μ m H v u a b d Q W ra rb e q => by
  unfold eqD at e
  cases h1 : shap a with
  | none => rw [h1] at e; cases e
  | some p1 =>
  rw [h1] at e
  cases h2 : shap b with
  | none => simp only [Option.bind_some, h2] at e; cases e
  | some p2 =>
  simp only [Option.bind_some, h2] at e
  cases e
  obtain ⟨t1, s1⟩ := shap_ok h1
  obtain ⟨t2, s2⟩ := shap_ok h2
  exact ⟨p1, p2, Dp.up W.g _ _ (toPy_dp a v p1 ra t1), Dp.up W.g _ _ (toPy_dp b u p2 rb t2), s1, s2, q.dat W (.bl _)⟩
theorem cmd_eq (hu : X.A.units + 64 < cLine) : CmpD X .Eq (rEqD X.K) (lift2 fun x y => (eqD x y).map .bl) := ⟨op_eqD hu, den_eqD⟩
theorem cmd_ne (hu : X.A.units + 64 < cLine) : CmpD X .NotEq (rNeD X.K) (lift2 fun x y => (eqD x y).map fun b => .bl (!b)) := ⟨op_neD hu, den_neD⟩

/-! ### x in a tuple | list of flat values -/
def flD : D → Bool
  | .non => true
  | .bl _ => true
  | .int _ => true
  | .str _ => true
  | _ => false
def eqF : D → D → Bool
  | .non, .non => true
  | .bl a, .bl b => a == b
  | .bl a, .int b => (if a then 1 else 0) == b
  | .int a, .bl b => a == (if b then 1 else 0)
  | .int a, .int b => a == b
  | .str a, .str b => a == b
  | _, _ => false
theorem fl_v {G : Hp} {v : V} {d : D} (r : Rp K G v d) : flatV v = flD d := by
  cases r <;> rfl
theorem eqF_v {G : Hp} {v u : V} {d e : D} (r : Rp K G v d) (k : Rp K G u e) (f1 : flD d = true) (f2 : flD e = true) : eqV v u = eqF d e := by
  cases r <;> first | (cases k <;> first | rfl | cases f2) | cases f1
theorem all_fl {G : Hp} : ∀ {vs : List V} {ds : List D}, RpAll K G vs ds → vs.all flatV = ds.all flD
  | _, _, .nil => rfl
  | _, _, .cons r t => by rw [List.all_cons, List.all_cons, fl_v r, all_fl t]
theorem in_v {G : Hp} {v : V} {d : D} (r : Rp K G v d) (f : flD d = true) : ∀ {vs : List V} {ds : List D}, RpAll K G vs ds → ds.all flD = true → inV v vs = ds.any fun e => eqF e d
  | _, _, .nil, _ => rfl
  | _, _, .cons r1 t, h => by
    rw [List.all_cons, Bool.and_eq_true] at h
    have ih := in_v r f t h.2
    unfold inV at ih ⊢
    rw [List.any_cons, List.any_cons, ih, eqF_v r1 r h.1 f]
def inD (neg : Bool) : D → D → Option D
  | x, .tup ds => if flD x && ds.all flD then some (.bl (if neg then !(ds.any fun e => eqF e x) else ds.any fun e => eqF e x)) else none
  | x, .lst ds => if flD x && ds.all flD then some (.bl (if neg then !(ds.any fun e => eqF e x) else ds.any fun e => eqF e x)) else none
  | _, _ => none
theorem den_in (neg : Bool) : Den2 K (rIn K neg) (lift2 (inD neg)) := den2 fun G F μ m H v u a b d Q W ra rb e q => by
  unfold inD at e
  split at e
  · rename_i ds
    split at e
    · rename_i hf
      cases e
      rw [Bool.and_eq_true] at hf
      cases rb with
      | @tup p xs _ hs r =>
      refine ⟨p, xs, rfl, .inr (sub_sqt W.g hs), by rw [fl_v ra]; exact hf.1, by rw [all_fl r]; exact hf.2, ?_⟩
      rw [in_v ra hf.1 r hf.2]
      exact q.dat W (.bl _)
    · cases e
  · rename_i ds
    split at e
    · rename_i hf
      cases e
      rw [Bool.and_eq_true] at hf
      cases rb with
      | @lst p xs _ hs r =>
      refine ⟨p, xs, rfl, .inl (SqL.of (W.g _ _ hs)), by rw [fl_v ra]; exact hf.1, by rw [all_fl r]; exact hf.2, ?_⟩
      rw [in_v ra hf.1 r hf.2]
      exact q.dat W (.bl _)
    · cases e
  · cases e
theorem cmd_in : CmpD X .In (rIn X.K false) (lift2 (inD false)) := ⟨op_in_seq, den_in false⟩
theorem cmd_notIn : CmpD X .NotIn (rIn X.K true) (lift2 (inD true)) := ⟨op_notIn_seq, den_in true⟩
end
end Dn
set_option Elab.async false
set_option linter.all false
set_option maxRecDepth 100000
namespace Dn
open PySem PySem.Spec PyProof.Rows L2

section
variable {X : Cx} {K : PySem.W.Frag}
/-! ### items -/
def lstV (m : Sto) : Vl → Option (List D)
  | .dat (.lst l) => some l
  | .dat (.frl l) => some l
  | .obj i => match m[i]? with
    | some (.lst l) => some l
    | _ => none
  | _ => none
theorem lstV_ok {G F : Hp} {μ : List Addr} {m : Sto} {H : Hp} {v : V} {x : Vl} {l : List D} (W : Wd K G F μ m H) (r : RV K G μ v x) (h : lstV m x = some l) : ∃ a xs, v = .ref a ∧ SqL K H a xs ∧ RpAll K G xs l := by
  unfold lstV at h
  split at h
  · cases h
    cases r with
    | dat r =>
    cases r with
    | lst e ra => exact ⟨_, _, rfl, SqL.of (W.g _ _ e), ra⟩
  · cases h
    cases r with
    | dat r =>
    cases r with
    | frl e ra => exact ⟨_, _, rfl, sub_sql W.g e, ra⟩
  · rename_i i
    split at h
    · rename_i l' hl
      cases h
      cases r with
      | obj hm =>
      obtain ⟨vs, e, ra⟩ := W.lstAt hm hl
      exact ⟨_, _, rfl, SqL.of e, ra⟩
    · cases h
  · cases h
def tupV : Vl → Option (List D)
  | .dat (.tup l) => some l
  | _ => none
theorem tupV_ok {G F : Hp} {μ : List Addr} {m : Sto} {H : Hp} {v : V} {x : Vl} {l : List D} (W : Wd K G F μ m H) (r : RV K G μ v x) (h : tupV x = some l) : ∃ a xs, v = .ref a ∧ SqT K G a xs ∧ SqT K H a xs ∧ RpAll K G xs l := by
  unfold tupV at h
  split at h
  · cases h
    cases r with
    | dat r =>
    cases r with
    | tup e ra => exact ⟨_, _, rfl, e, sub_sqt W.g e, ra⟩
  · cases h
/-- a list or a tuple -/
def seqV (m : Sto) (x : Vl) : Option (List D) := (lstV m x).or (tupV x)
theorem seqV_ok {G F : Hp} {μ : List Addr} {m : Sto} {H : Hp} {v : V} {x : Vl} {l : List D} (W : Wd K G F μ m H) (r : RV K G μ v x) (h : seqV m x = some l) : ∃ a xs, v = .ref a ∧ (SqL K H a xs ∨ SqT K H a xs) ∧ RpAll K G xs l := by
  unfold seqV at h
  cases h1 : lstV m x with
  | some l' =>
    rw [h1] at h
    cases h
    obtain ⟨a, xs, e, h2, h3⟩ := lstV_ok W r h1
    exact ⟨a, xs, e, .inl h2, h3⟩
  | none =>
    rw [h1] at h
    obtain ⟨a, xs, e, _, h2, h3⟩ := tupV_ok W r h
    exact ⟨a, xs, e, .inr h2, h3⟩
theorem RpAll.atI {G : Hp} {vs : List V} {ds : List D} {i : Int} {d : D} (r : RpAll K G vs ds) (h : L2.atI ds i = some d) : ∃ v, L2.atI vs i = some v ∧ Rp K G v d := by
  unfold L2.atI at h ⊢
  rw [r.length]
  cases e : ixN ds.length i with
  | none => rw [e] at h; cases h
  | some j =>
    rw [e] at h
    exact r.get h
def strI (s : Str) (i : Int) : Option D := (L2.atI s.cps.toList i).map fun c => .str ⟨#[c]⟩
def ixV : Vl → Vl → Sto → Option (Vl × Sto) := fun x y m => match y with
  | .dat (.int i) => match lstV m x with
    | some l => (L2.atI l i).map fun d => (.dat d, m)
    | none => match x with
      | .dat (.tup l) => (L2.atI l i).map fun d => (.dat d, m)
      | .dat (.str s) => if lim s.length then (strI s i).map fun d => (.dat d, m) else none
      | _ => none
  | _ => none
theorem ixd : IxD X (rIx X.K) ixV := ⟨ix_seq, by
  intro G F μ m H v u x y z m' Q W rx ry e q
  unfold ixV at e
  split at e
  · rename_i i
    have hu := rv_int ry
    subst hu
    split at e
    · rename_i l hl
      obtain ⟨a, xs, rfl, hs, ra⟩ := lstV_ok W rx hl
      cases h1 : L2.atI l i with
      | none => rw [h1] at e; cases e
      | some d =>
        rw [h1] at e
        cases e
        obtain ⟨w, hw, rw'⟩ := ra.atI h1
        exact .inl ⟨a, xs, i, w, rfl, rfl, hs, hw, q.dat W rw'⟩
    · split at e
      · rename_i l hnone
        cases h1 : L2.atI l i with
        | none => rw [h1] at e; cases e
        | some d =>
          rw [h1] at e
          cases e
          obtain ⟨a, xs, rfl, _, hs, ra⟩ := tupV_ok (l := l) W rx rfl
          obtain ⟨w, hw, rw'⟩ := ra.atI h1
          exact .inr (.inl ⟨a, xs, i, w, rfl, rfl, hs, hw, q.dat W rw'⟩)
      · rename_i s hnone
        split at e
        · rename_i hl
          unfold strI at e
          cases h1 : L2.atI s.cps.toList i with
          | none => rw [h1] at e; cases e
          | some c =>
            rw [h1] at e
            cases e
            cases rx with
            | dat rx =>
            cases rx
            exact .inr (.inr ⟨s, i, c, rfl, rfl, lim_sz hl, h1, q.dat W (.str _)⟩)
        · cases e
      · cases e
  · cases e⟩

/-! ### slices -/
def cutD (xs : List D) (lo hi : Option Int) : List D := (xs.drop (HT.sIx xs.length 0 lo)).take (HT.sIx xs.length xs.length hi - HT.sIx xs.length 0 lo)
theorem RpAll.cut {G : Hp} {vs : List V} {ds : List D} (r : RpAll K G vs ds) (lo hi : Option Int) : RpAll K G (cutV vs lo hi) (cutD ds lo hi) := by
  unfold cutV cutD
  rw [r.length]
  exact (r.drop _).take _
def slV : Vl → Option Int → Option Int → Sto → Option (Vl × Sto) := fun x lo hi m => match lstV m x with
  | some l => some (.dat (.lst (cutD l lo hi)), m)
  | none => match x with
    | .dat (.tup l) => some (.dat (.tup (cutD l lo hi)), m)
    | .dat (.str s) => if lim s.length then some (.dat (.str (cutS s lo hi)), m) else none
    | _ => none
def rSlAll (K : PySem.W.Frag) : V → Option Int → Option Int → Hp → VK → Prop := fun x lo hi H Q => rSlL K x lo hi H Q ∨ rSlA K x lo hi H Q ∨ rSlS x lo hi H Q
theorem sld : SlD X (rSlAll X.K) slV := ⟨sl_list.or (sl_tupA.or sl_str), by
  intro G F μ m H v lo hi x z m' Q W rx e q
  unfold slV at e
  split at e
  · rename_i l hl
    cases e
    obtain ⟨a, xs, rfl, hs, ra⟩ := lstV_ok W rx hl
    exact .inl ⟨a, xs, rfl, hs, fun p hp => q.newL W hp (ra.cut lo hi)⟩
  · split at e
    · rename_i l hnone
      cases e
      obtain ⟨a, xs, rfl, hg, hs, ra⟩ := tupV_ok (l := l) W rx rfl
      refine .inr (.inl ⟨a, xs, rfl, hs, fun hw => ?_, fun _ p hp => q.newT W hp (ra.cut lo hi)⟩)
      have e : cutD l lo hi = l := by
        unfold cutD
        rw [← ra.length, hw.1, hw.2, List.drop_zero, ra.length, Nat.sub_zero, List.take_length]
      rw [e] at q
      exact q.dat W (.tup hg ra)
    · rename_i s hnone
      split at e
      · rename_i hl
        cases e
        cases rx with
        | dat rx =>
        cases rx
        exact .inr (.inr ⟨s, rfl, lim_sz hl, q.dat W (.str _)⟩)
      · cases e
    · cases e⟩
/-- xs[::-1] -/
def dRev (f : EDen) : EDen := fun ρ m => (f ρ m).bind fun p => (lstV p.2 p.1).map fun l => (.dat (.lst l.reverse), p.2)
theorem de_rev {e : Expr} {te : TE} {f : EDen} {k : Nat} {p1 p2 p3 pos : Pos} (he : DE X e te f) : DE X (.Subscript e (.Slice none none (some (.UnaryOp .USub (.Constant (.int 1) k p1) p2)) p3) pos) (tRevL X.K te) (dRev f) := ⟨pe_revL he.pe, by
  intro σ ρ G F μ m H x m' Q W E h q
  unfold dRev at h
  cases h1 : f ρ m with
  | none => rw [h1] at h; cases h
  | some p =>
    rw [h1] at h
    obtain ⟨y, m1⟩ := p
    simp only [Option.bind_some] at h
    cases h2 : lstV m1 y with
    | none => rw [h2] at h; cases h
    | some l =>
    rw [h2] at h
    cases h
    refine he.dn σ ρ G F μ m H y _ _ W E h1 fun v G1 μ1 H1 W1 g1 r1 => ?_
    obtain ⟨a, xs, rfl, hs, ra⟩ := lstV_ok W1 r1 h2
    exact ⟨a, xs, rfl, hs, fun p hp => (Aft.of q g1).newL W1 hp ra.reverse⟩⟩

/-! ### calls of built-ins -/
theorem rvAll1 {G : Hp} {μ : List Addr} {vs : List V} {x : Vl} (r : RVAll K G μ vs [x]) : ∃ v, vs = [v] ∧ RV K G μ v x := by
  cases r with
  | cons r t => cases t; exact ⟨_, rfl, r⟩
theorem rvAll2 {G : Hp} {μ : List Addr} {vs : List V} {x y : Vl} (r : RVAll K G μ vs [x, y]) : ∃ v u, vs = [v, u] ∧ RV K G μ v x ∧ RV K G μ u y := by
  cases r with
  | cons r t => cases t with | cons r' t => cases t; exact ⟨_, _, rfl, r, r'⟩
def lenF : FDen := fun xs m => match xs with
  | [x] => match seqV m x with
    | some l => some (.dat (.int l.length), m)
    | none => match x with
      | .dat (.str s) => if lim s.length then some (.dat (.int s.length), m) else none
      | _ => none
  | _ => none
theorem cad_len : CalD X (.builtin "len") (fun xs H Q => ∃ x n, xs = [x] ∧ LenV X.K x H n ∧ Q (.int n) H) lenF := ⟨call_len, by
  intro G F μ m H vs xs x m' Q W r e q
  unfold lenF at e
  split at e
  · rename_i y
    obtain ⟨v, rfl, rv⟩ := rvAll1 r
    split at e
    · rename_i l hl
      cases e
      obtain ⟨a, xs, rfl, hs, ra⟩ := seqV_ok W rv hl
      refine ⟨_, xs.length, rfl, ?_, by rw [ra.length]; exact q.dat W (.int _)⟩
      rcases hs with hs | hs
      · exact .inl ⟨xs, hs, rfl⟩
      · exact .inr ⟨xs, hs, rfl⟩
    · split at e
      · split at e
        · rename_i s hnone hl
          cases e
          cases rv with
          | dat rv =>
          cases rv
          exact ⟨_, s.length, rfl, ⟨lim_sz hl, rfl⟩, q.dat W (.int _)⟩
        · cases e
      · cases e
  · cases e⟩
def intF : FDen := fun xs m => match xs with
  | [.dat (.int i)] => some (.dat (.int i), m)
  | [.dat (.bl b)] => some (.dat (.int (if b then 1 else 0)), m)
  | _ => none
theorem cad_int : CalD X (.type "int") (fun xs H Q => (∃ i, xs = [.int i] ∧ Q (.int i) H) ∨ ∃ k, xs = [.bl k] ∧ Q (.int (if k then 1 else 0)) H) intF := ⟨call_int1, by
  intro G F μ m H vs xs x m' Q W r e q
  unfold intF at e
  split at e
  · cases e
    obtain ⟨v, rfl, rv⟩ := rvAll1 r
    rw [rv_int rv]
    exact .inl ⟨_, rfl, q.dat W (.int _)⟩
  · cases e
    obtain ⟨v, rfl, rv⟩ := rvAll1 r
    rw [rv_bl rv]
    exact .inr ⟨_, rfl, q.dat W (.int _)⟩
  · cases e⟩
def absF : FDen := fun xs m => match xs with
  | [.dat (.int i)] => some (.dat (.int (if i < 0 then -i else i)), m)
  | _ => none
theorem cad_abs : CalD X (.builtin "abs") (fun xs H Q => ∃ i, xs = [.int i] ∧ Q (.int (if i < 0 then -i else i)) H) absF := ⟨call_abs, by
  intro G F μ m H vs xs x m' Q W r e q
  unfold absF at e
  split at e
  · cases e
    obtain ⟨v, rfl, rv⟩ := rvAll1 r
    rw [rv_int rv]
    exact ⟨_, rfl, q.dat W (.int _)⟩
  · cases e⟩
def strF : FDen := fun xs m => match xs with
  | [.dat (.int i)] => if decide (i.natAbs < 2 ^ 200) then some (.dat (.str (toString i)), m) else none
  | _ => none
theorem cad_str : CalD X (.type "str") (fun xs H Q => ∃ i, xs = [.int i] ∧ i.natAbs.log2 < 1920 ∧ Q (.str (toString i)) H) strF := ⟨call_str_int, by
  intro G F μ m H vs xs x m' Q W r e q
  unfold strF at e
  split at e
  · rename_i i
    split at e
    · rename_i hl
      cases e
      obtain ⟨v, rfl, rv⟩ := rvAll1 r
      rw [rv_int rv]
      refine ⟨_, rfl, ?_, q.dat W (.str _)⟩
      have h1 : i.natAbs < 2 ^ 200 := of_decide_eq_true hl
      by_cases h0 : i.natAbs = 0
      · rw [h0]; decide
      · have h2 : i.natAbs < 2 ^ 1920 := Nat.lt_of_lt_of_le h1 (Nat.pow_le_pow_right (by decide) (by decide))
        exact (Nat.log2_lt h0).mpr h2
    · cases e
  · cases e⟩
def listF : FDen := fun xs m => match xs with
  | [x] => (seqV m x).map fun l => (.dat (.lst l), m)
  | _ => none
theorem cad_list : CalD X (.type "list") (fun xs H Q => ∃ p ys, xs = [.ref p] ∧ (SqL X.K H p ys ∨ SqT X.K H p ys) ∧ ∀ l, H l = none → Q (.ref l) (upd H l (.lst ys))) listF := ⟨call_list_of, by
  intro G F μ m H vs xs x m' Q W r e q
  unfold listF at e
  split at e
  · rename_i y
    cases h1 : seqV m y with
    | none => rw [h1] at e; cases e
    | some l =>
      rw [h1] at e
      cases e
      obtain ⟨v, rfl, rv⟩ := rvAll1 r
      obtain ⟨a, xs, rfl, hs, ra⟩ := seqV_ok W rv h1
      exact ⟨a, xs, rfl, hs, fun p hp => q.newL W hp ra⟩
  · cases e⟩
def tupF : FDen := fun xs m => match xs with
  | [x] => (seqV m x).map fun l => (.dat (.tup l), m)
  | _ => none
theorem cad_tup : CalD X (.type "tuple") (fun xs H Q => ∃ p ys, xs = [.ref p] ∧ ((SqL X.K H p ys ∧ ∀ l, H l = none → Q (.ref l) (upd H l (.tup ys))) ∨ (SqT X.K H p ys ∧ Q (.ref p) H))) tupF := ⟨call_tuple_of, by
  intro G F μ m H vs xs x m' Q W r e q
  unfold tupF at e
  split at e
  · rename_i y
    cases h1 : seqV m y with
    | none => rw [h1] at e; cases e
    | some l =>
      rw [h1] at e
      cases e
      obtain ⟨v, rfl, rv⟩ := rvAll1 r
      unfold seqV at h1
      cases h2 : lstV m y with
      | some l' =>
        rw [h2] at h1
        cases h1
        obtain ⟨a, xs, rfl, hs, ra⟩ := lstV_ok W rv h2
        exact ⟨a, xs, rfl, .inl ⟨hs, fun p hp => q.newT W hp ra⟩⟩
      | none =>
        rw [h2] at h1
        obtain ⟨a, xs, rfl, hg, hs, ra⟩ := tupV_ok W rv h1
        exact ⟨a, xs, rfl, .inr ⟨hs, q.dat W (.tup hg ra)⟩⟩
  · cases e⟩
/-! all, any of a list of bools -/
def bools : List D → Option (List Bool)
  | [] => some []
  | .bl b :: r => (bools r).map (b :: ·)
  | _ :: _ => none
theorem bools_ok {G : Hp} : ∀ {ds : List D} {vs : List V} {bs : List Bool}, RpAll K G vs ds → bools ds = some bs → vs = bs.map V.bl
  | [], _, _, r, e => by cases r; cases e; rfl
  | d :: ds, _, _, r, e => by
    cases r with
    | cons r1 r2 =>
    unfold bools at e
    split at e
    · rename_i heq
      cases heq
    · rename_i b r' heq
      cases heq
      cases h1 : bools ds with
      | none => rw [h1] at e; cases e
      | some cs =>
        rw [h1] at e
        cases e
        cases r1
        rw [bools_ok r2 h1]
        rfl
    · cases e
def allF : FDen := fun xs m => match xs with
  | [x] => (lstV m x).bind fun l => (bools l).map fun bs => (.dat (.bl (bs.all id)), m)
  | _ => none
def anyF : FDen := fun xs m => match xs with
  | [x] => (lstV m x).bind fun l => (bools l).map fun bs => (.dat (.bl (bs.any id)), m)
  | _ => none
theorem cad_all (hc : X.calm = true) : CalD X (.builtin "all") (rAll X.K) allF := ⟨cr_all hc, by
  intro G F μ m H vs xs x m' Q W r e q
  unfold allF at e
  split at e
  · rename_i y
    cases h1 : lstV m y with
    | none => rw [h1] at e; cases e
    | some l =>
      rw [h1] at e
      simp only [Option.bind_some] at e
      cases h2 : bools l with
      | none => rw [h2] at e; cases e
      | some bs =>
        rw [h2] at e
        cases e
        obtain ⟨v, rfl, rv⟩ := rvAll1 r
        obtain ⟨a, xs, rfl, hs, ra⟩ := lstV_ok W rv h1
        rw [bools_ok ra h2] at hs
        exact ⟨a, bs, rfl, hs, q.dat W (.bl _)⟩
  · cases e⟩
theorem cad_any (hc : X.calm = true) : CalD X (.builtin "any") (rAny X.K) anyF := ⟨cr_any hc, by
  intro G F μ m H vs xs x m' Q W r e q
  unfold anyF at e
  split at e
  · rename_i y
    cases h1 : lstV m y with
    | none => rw [h1] at e; cases e
    | some l =>
      rw [h1] at e
      simp only [Option.bind_some] at e
      cases h2 : bools l with
      | none => rw [h2] at e; cases e
      | some bs =>
        rw [h2] at e
        cases e
        obtain ⟨v, rfl, rv⟩ := rvAll1 r
        obtain ⟨a, xs, rfl, hs, ra⟩ := lstV_ok W rv h1
        rw [bools_ok ra h2] at hs
        exact ⟨a, bs, rfl, hs, q.dat W (.bl _)⟩
  · cases e⟩
/-! isinstance -/
def tyNm (m : Sto) : Vl → Option String
  | .dat .non => some "NoneType"
  | .dat (.bl _) => some "bool"
  | .dat (.int _) => some "int"
  | .dat (.str _) => some "str"
  | .dat (.lst _) => some "list"
  | .dat (.frl _) => some "list"
  | .dat (.tup _) => some "tuple"
  | .dat (.dct _ _) => some "dict"
  | .dat (.ty _) => none
  | .obj i => match m[i]? with
    | some (.lst _) => some "list"
    | _ => none
theorem tyNm_ok {G F : Hp} {μ : List Addr} {m : Sto} {H : Hp} {v : V} {x : Vl} {t : String} (W : Wd K G F μ m H) (r : RV K G μ v x) (h : tyNm m x = some t) : TyX K H v (.type t) := by
  cases r with
  | dat r =>
    cases r with
    | non => cases h; exact .base .non
    | bl b => cases h; exact .base (.bl b)
    | int i => cases h; exact .base (.int i)
    | str i => cases h; exact .base (.str i)
    | ty i => cases h
    | lst e ra => cases h; exact .base (.lst (W.g _ _ e))
    | frl e ra =>
      cases h
      rcases e with (e | ⟨o, e⟩) | ⟨o, its, n, e, c, _⟩
      · exact .base (.lst (W.g _ _ e))
      · exact .base (.frz (W.g _ _ e))
      · exact .kList e c
    | tup e ra =>
      cases h
      rcases e with (e | ⟨o, e⟩) | ⟨o, its, n, e, c, _⟩
      · exact .base (.tup (W.g _ _ e))
      · exact .fTuple (W.g _ _ e)
      · exact .kTuple e c
    | dct e ra => cases h; exact .base (.dK (W.g _ _ e))
  | @obj i a hm =>
    unfold tyNm at h
    simp only at h
    split at h
    · rename_i l hl
      cases h
      obtain ⟨vs, e, _⟩ := W.lstAt hm hl
      exact .base (.lst e)
    · cases h
def tys : List D → Option (List String)
  | [] => some []
  | .ty n :: r => (tys r).map (n :: ·)
  | _ :: _ => none
def kitAnyB (t : String) : List String → Option Bool
  | [] => some false
  | n :: r => match kitB t n with
    | some true => some true
    | some false => kitAnyB t r
    | none => none
def isiF : FDen := fun xs m => match xs with
  | [x, .dat (.ty n)] => (tyNm m x).bind fun t => (kitB t n).map fun b => (.dat (.bl b), m)
  | [x, .dat (.tup ts)] => (tyNm m x).bind fun t => (tys ts).bind fun ns => (kitAnyB t ns).map fun b => (.dat (.bl b), m)
  | _ => none
theorem tys_ok {G : Hp} : ∀ {ts : List D} {cs : List V} {ns : List String}, RpAll K G cs ts → tys ts = some ns → Paired ClsV cs (ns.map Value.type)
  | [], _, _, r, e => by
    cases r
    cases e
    exact .nil
  | d :: ts, _, _, r, e => by
    cases r with
    | cons r1 r2 =>
    unfold tys at e
    split at e
    · rename_i heq
      cases heq
    · rename_i n r' heq
      cases heq
      cases h1 : tys ts with
      | none => rw [h1] at e; cases e
      | some ms =>
        rw [h1] at e
        cases e
        cases r1
        exact .cons (.ty n) (tys_ok r2 h1)
    · cases e
theorem kitAnyB_ok {t : String} : ∀ {ns : List String} {b : Bool}, kitAnyB t ns = some b → PySem.W.kitAny K (.type t) (ns.map Value.type) = some b
  | [], _, e => by cases e; rfl
  | n :: r, b, e => by
    unfold kitAnyB at e
    split at e
    · rename_i hk
      cases e
      exact kitAny_cons (kit_ty hk) (fun z => nomatch z) fun _ => rfl
    · rename_i hk
      exact kitAny_cons (kit_ty hk) (fun _ => kitAnyB_ok e) fun z => nomatch z
    · cases e
/-- isinstance(x, (c1, c2, ..)), the tuple tracked or known -/
def rIsiS (K : PySem.W.Frag) : List V → Hp → VK → Prop := fun xs H Q => ∃ (x : V) (tp : Addr) (cs : List V) (t : Value) (us : List Value) (b : Bool), xs = [x, .ref tp] ∧ SqT K H tp cs ∧ Paired ClsV cs us ∧ TyX K H x t ∧ PySem.W.kitAny K t us = some b ∧ Q (.bl b) H
theorem call_isiS : CallR X (.builtin "isinstance") (rIsiS X.K) := by
  intro pins s σ H xs us Q I r h
  obtain ⟨x, tp, cs, t, ws, b, rfl, hT, k, ty, e, q⟩ := h
  obtain ⟨u1, u2, rfl, r1, r2⟩ := vals2 r
  cases (show u2 = Value.ref tp from r2)
  obtain ⟨P, Z, p, hx⟩ := kit_of I r1 ty
  obtain ⟨its, rv, ⟨o, ho, hc, n, hd⟩, _⟩ := I.tuple hT
  have e3 := ClsV.all k rv
  subst e3
  obtain ⟨oc, od, dt, sl⟩ := o
  simp only at hc hd
  subst hc hd
  exact PySem.W.kia_tup Z I.kIn p ho e hx fun tk => ⟨.bl b, H, I.tok tk, rfl, q⟩
theorem cad_isi : CalD X (.builtin "isinstance") (fun xs H Q => rIsi X.K xs H Q ∨ rIsiS X.K xs H Q) isiF := ⟨call_isi.or call_isiS, by
  intro G F μ m H vs xs x m' Q W r e q
  unfold isiF at e
  split at e
  · rename_i y n
    cases h1 : tyNm m y with
    | none => rw [h1] at e; cases e
    | some t =>
      rw [h1] at e
      simp only [Option.bind_some] at e
      cases h2 : kitB t n with
      | none => rw [h2] at e; cases e
      | some b =>
        rw [h2] at e
        cases e
        obtain ⟨v, u, rfl, rv, ru⟩ := rvAll2 r
        cases ru with
        | dat ru =>
        cases ru
        exact .inl ⟨v, .ty n, .type t, .type n, b, rfl, .ty n, tyNm_ok W rv h1, kit_ty h2, q.dat W (.bl _)⟩
  · rename_i y ts
    cases h1 : tyNm m y with
    | none => rw [h1] at e; cases e
    | some t =>
      rw [h1] at e
      simp only [Option.bind_some] at e
      cases h3 : tys ts with
      | none => rw [h3] at e; cases e
      | some ns =>
      rw [h3] at e
      simp only [Option.bind_some] at e
      cases h2 : kitAnyB t ns with
      | none => rw [h2] at e; cases e
      | some b =>
        rw [h2] at e
        cases e
        obtain ⟨v, u, rfl, rv, ru⟩ := rvAll2 r
        cases ru with
        | dat ru =>
        cases ru with
        | @tup a xs _ hs ra =>
        exact .inr ⟨v, a, xs, .type t, _, b, rfl, sub_sqt W.g hs, tys_ok ra h3, tyNm_ok W rv h1, kitAnyB_ok h2, q.dat W (.bl _)⟩
  · cases e⟩
/-! repr of data; nothing is being written out around -/
def shownD (d : D) : Option Str := (toPy d).bind fun p => if PyData.showable p && decide (p.hasDict = false) && lim p.shown.length && decide (p.depth ≤ 64) then some p.shown else none
def reprF : FDen := fun xs m => match xs with
  | [.dat d] => (shownD d).map fun s => (.dat (.str s), m)
  | _ => none
end
end Dn
set_option Elab.async false
set_option linter.all false
set_option maxRecDepth 100000
namespace Dn
open PySem PySem.Spec PyProof.Rows L2

section
variable {X : Cx} {K : PySem.W.Frag}
/-! ### repr -/
def rReprD (K : PySem.W.Frag) : List V → Hp → VK → Prop := fun xs H Q => ∃ x p, xs = [x] ∧ Dp K H x p ∧ ((∃ a, x = .ref a) ∨ ∃ b, x = .bl b) ∧ PyData.showable p = true ∧ p.hasDict = false ∧ p.shown.length ≤ sizeLine ∧ p.depth ≤ 64 ∧ Q (.str p.shown) H
theorem call_reprD (hg : X.A.guards = some []) (hu : X.A.units + 70 < cLine) : CallR X (.builtin "repr") (rReprD X.K) := by
  intro pins s σ H xs us Q I r h
  obtain ⟨x, p, rfl, hd, hx, h1, h2, h3, h4, q⟩ := h
  obtain ⟨u, rfl, rx⟩ := vals1 r
  rcases hx with ⟨a, rfl⟩ | ⟨b, rfl⟩
  · obtain ⟨as, rd⟩ := Dp.reads I p _ u hd rx
    cases (show u = Value.ref a from rx)
    refine PySem.repr_of_reads' rd h1 (PyData.noDict_hsm h2) hg (by omega) (fun _ _ e => e) (fun h' t tk hk => ?_) h3
    exact ⟨.str p.shown, H, I.kept (t' := tk) hk, ⟨_, rfl⟩, q⟩
  · cases (show u = Value.bool b from rx)
    cases hd
    refine PySem.P.repr_of_bool ⟨.str _, H, I.tok _, ⟨_, rfl⟩, ?_⟩
    have e : (PyData.bool b).shown = (if b then ("True" : Str) else ("False" : Str)) := by unfold PyData.shown; rfl
    rw [e] at q
    cases b <;> exact q
def refBl : D → Bool
  | .lst _ => true
  | .frl _ => true
  | .tup _ => true
  | .bl _ => true
  | _ => false
def reprD (d : D) : Option D := if refBl d then (shownD d).map .str else none
def reprG : FDen := fun xs m => match xs with
  | [.dat d] => (reprD d).map fun e => (.dat e, m)
  | _ => none
theorem cad_repr (hg : X.A.guards = some []) (hu : X.A.units + 70 < cLine) : CalD X (.builtin "repr") (rReprD X.K) reprG := ⟨call_reprD hg hu, by
  intro G F μ m H vs xs x m' Q W r e q
  unfold reprG at e
  split at e
  · rename_i d
    obtain ⟨v, rfl, rv⟩ := rvAll1 r
    cases rv with
    | dat rv =>
    unfold reprD at e
    split at e
    · rename_i hb
      unfold shownD at e
      cases h1 : toPy d with
      | none => rw [h1] at e; cases e
      | some p =>
      rw [h1] at e
      simp only [Option.bind_some] at e
      split at e
      · rename_i hc
        cases e
        simp only [Bool.and_eq_true, decide_eq_true_eq] at hc
        refine ⟨v, p, rfl, Dp.up W.g _ _ (toPy_dp d v p rv h1), ?_, hc.1.1.1, hc.1.1.2, lim_sz hc.1.2, hc.2, q.dat W (.str _)⟩
        cases rv <;> first | exact .inl ⟨_, rfl⟩ | exact .inr ⟨_, rfl⟩ | cases hb
      · cases e
    · cases e
  · cases e⟩

/-! ### defs -/
/-- what a body hands back; the objects made since are dropped -/
def dFin (n : Nat) (fl : Flw) (m : Sto) : Option (Vl × Sto) := match fl with
  | .nx => some (.dat .non, m.take n)
  | .rt (.dat d) => some (.dat d, m.take n)
  | .rt (.obj i) => if i < n then some (.obj i, m.take n) else match m[i]? with
    | some (.lst l) => some (.dat (.lst l), m.take n)
    | _ => none
  | _ => none
def dBody (k : Nat) (b : SDen) : FDen := fun xs m => (b (xs.map some ++ List.replicate (k - xs.length) none) m).bind fun p => dFin m.length p.1 p.2.2
theorem er_start {G : Hp} {μ : List Addr} {N : List Str} {vs : List V} {xs : List Vl} (r : RVAll K G μ vs xs) : ER K G μ (L2.start N vs) (xs.map some ++ List.replicate (N.length - xs.length) none) := by
  have hl := r.length
  refine ⟨by unfold L2.start; simp only [List.length_append, List.length_map, List.length_replicate, hl], fun i x h => ?_⟩
  have key : ∀ {vs : List V} {xs : List Vl} {i : Nat} {x : Vl}, RVAll K G μ vs xs → xs[i]? = some x → ∃ v, vs[i]? = some v ∧ RV K G μ v x := by
    intro vs xs i x r
    induction r generalizing i with
    | nil => intro h; simp at h
    | cons r1 _ ih =>
      intro h
      cases i with
      | zero => simp at h; subst h; exact ⟨_, rfl, r1⟩
      | succ i =>
        obtain ⟨v, e1, e2⟩ := ih (i := i) (by simpa using h)
        exact ⟨v, by simpa using e1, e2⟩
  by_cases hi : i < xs.length
  · rw [List.getElem?_append_left (by simpa using hi), List.getElem?_map] at h
    cases e : xs[i]? with
    | none => rw [e] at h; cases h
    | some y =>
      rw [e] at h
      cases h
      obtain ⟨v, e1, e2⟩ := key r e
      refine ⟨v, ?_, e2⟩
      unfold L2.start
      rw [List.getElem?_append_left (by rw [List.length_map, hl]; exact hi), List.getElem?_map, e1]
      rfl
  · rw [List.getElem?_append_right (by simpa using hi), List.getElem?_replicate] at h
    split at h <;> cases h
/-- a def's promise from its body -/
theorem body_ok {t : TS} {b : SDen} {N : List Str} {n : Nat} {vs : List V} {H : Hp} {Q : VK} {E : XK} (hd : DenS K t b) (h : spD K n (dBody N.length b) vs H Q E) : t { nx := fun _ H' => Q .non H', rt := Q } (L2.start N vs) H := by
  obtain ⟨_, G, F, μ, m, xs, x, m', W, r, e, q⟩ := h
  unfold dBody at e
  cases h1 : b (xs.map some ++ List.replicate (N.length - xs.length) none) m with
  | none => rw [h1] at e; cases e
  | some p =>
  obtain ⟨fl, ρ', m1⟩ := p
  rw [h1] at e
  simp only [Option.bind_some] at e
  refine hd _ _ G F μ m H fl ρ' m1 _ W (er_start r) h1 ?_
  have hlen := W.len
  unfold dFin at e
  split at e
  · cases e
    intro σ' G' μ' H' W' g' _
    obtain ⟨ex, hm⟩ := g'.m
    refine q .non G' (μ'.take m.length) H' (W'.take _) ⟨g'.g, [], ?_⟩ (.dat .non)
    rw [hm, ← hlen, List.take_left, List.append_nil]
  · cases e
    intro v G' μ' H' W' g' r'
    obtain ⟨ex, hm⟩ := g'.m
    cases r' with
    | dat r' =>
    refine q v G' (μ'.take m.length) H' (W'.take _) ⟨g'.g, [], ?_⟩ (.dat r')
    rw [hm, ← hlen, List.take_left, List.append_nil]
  · rename_i i
    intro v G' μ' H' W' g' r'
    obtain ⟨ex, hm⟩ := g'.m
    have hμ : μ'.take m.length = μ := by rw [hm, ← hlen, List.take_left]
    cases r' with
    | @obj _ a hi =>
    split at e
    · rename_i hlt
      cases e
      refine q (.ref a) G' (μ'.take m.length) H' (W'.take _) ⟨g'.g, [], by rw [hμ, List.append_nil]⟩ (.obj ?_)
      rw [List.getElem?_take, if_pos hlt]
      exact hi
    · rename_i hge
      split at e
      · rename_i l hl
        cases e
        obtain ⟨vs', ea, ra⟩ := W'.lstAt hi hl
        have Wf := W'.freeze (ds := l) hi (Nat.le_of_not_lt hge) ea
        have ga := W'.gm a (List.mem_of_getElem? hi)
        exact q (.ref a) _ (μ'.take m.length) H' Wf ⟨g'.g.trans (sub_upd ga), [], by rw [hμ, List.append_nil]⟩ (.dat (rp_newL ga ra))
      · cases e
  · cases e
section
variable {P : Program} {w : World} {mg : Str → Option Value} {base : Heap}
/-- a def of the module -/
structure Def (K : PySem.W.Frag) (mg : Str → Option Value) (x : Str) (st : Stmt) (ps : List Str) : Prop where
  ex : ∃ f fd, Fun K x x st f fd ∧ mg x = some (.ref f) ∧ Binds K fd ps []
theorem Def.fn {x : Str} {st : Stmt} {ps N : List Str} {k : Nat} {b : SDen} (D : Def K mg x st ps) (S : FnScope N ps (defScope st))
    (hb : ∀ (f : Addr) (cdv : Value) (A : Around) (outer : List Env) (s : Shared) (H : Hp) (E : XK), Room k (A.deeper (envOfC x (defScope st) s.heap.objs.size f cdv)) →
      ∃ t, DSs (cxOf CX0 P w K mg base N x (defScope st) f cdv A outer s H E).nox (defBody st) t b) : FnD P w K mg base x ps (dBody N.length b) (k + 1) := by
  obtain ⟨f, fd, F, hm, hbi⟩ := D.ex
  have hlk : ∃ o, K.lookup f = some o ∧ o.data = .func fd := by
    obtain ⟨oc, od, kV, doc, pm, an, cdv, ct, osl, _, h, _⟩ := F.ex
    exact ⟨_, h, rfl⟩
  refine ⟨f, fd, ?_, hm, F.kp, hbi, hlk⟩
  refine F.ok S (fun vs H Q E h => h.1) fun cdv A outer s H vs Q E hr h => ?_
  obtain ⟨t, ht⟩ := hb f cdv A outer s H E hr
  exact ⟨t, ht.ps, body_ok ht.dn h⟩
/-- a def that is never called (a recursion's last turn) -/
def dNo : FDen := fun _ _ => none
theorem Def.no {x : Str} {st : Stmt} {ps : List Str} (D : Def K mg x st ps) : FnD P w K mg base x ps dNo 0 := by
  obtain ⟨f, fd, F, hm, hbi⟩ := D.ex
  have hlk : ∃ o, K.lookup f = some o ∧ o.data = .func fd := by
    obtain ⟨oc, od, kV, doc, pm, an, cdv, ct, osl, _, h, _⟩ := F.ex
    exact ⟨_, h, rfl⟩
  refine ⟨f, fd, ⟨fun vs H Q E h => h.1, fun A outer s H args us vs Q E hr he hbt hv h => ?_⟩, hm, F.kp, hbi, hlk⟩
  obtain ⟨_, G, F', μ, m, xs, x', m', _, _, e, _⟩ := h
  cases e
theorem FnD.mono {x : Str} {ps : List Str} {g : FDen} {j k : Nat} (F : FnD P w K mg base x ps g j) (h : j ≤ k) : FnD P w K mg base x ps g k := by
  obtain ⟨f, fd, h1, h2, h3, h4, h5⟩ := F.fn
  exact ⟨f, fd, h1.mono h, h2, h3, h4, h5⟩
end

/-! ### keywords alone -/
structure DK (X : Cx) (kws : List Keyword) (t : TA) (f : ADen) : Prop where
  pk : PK X kws t
  dn : DenA X.K t f
theorem dk_nil : DK X [] tNil dNil := ⟨pk_nil, by
  intro σ ρ G F μ m H xs m' Q W E h q
  cases h
  exact q [] G μ H W (Gr.refl G μ) .nil⟩
theorem dk_cons {nm : Option Str} {kpos : Pos} {kws : List Keyword} {e : Expr} {te : TE} {f : EDen} {t : TA} {g : ADen} (ha : DE X e te f) (hr : DK X kws t g) : DK X (⟨nm, e, kpos⟩ :: kws) (tCons te t) (dCons f g) := ⟨pk_cons ha.pe hr.pk, den_cons ha.dn hr.dn⟩
/-- the items of a list at these places -/
def pick {α : Type} (is : List Nat) (l : List α) : List α := is.filterMap fun i => l[i]?
theorem pick_vals {vs : List V} {us : List Value} (r : Vals vs us) : ∀ is : List Nat, Vals (pick is vs) (pick is us)
  | [] => .nil
  | i :: is => by
    have ih := pick_vals r is
    unfold pick at ih ⊢
    rw [List.filterMap_cons, List.filterMap_cons]
    cases e : vs[i]? with
    | none =>
      have e2 := r.none_of e
      rw [e2]
      exact ih
    | some v =>
      obtain ⟨u, hu, ru⟩ := r.get e
      rw [hu]
      exact .cons ru ih
theorem pick_rv {G : Hp} {μ : List Addr} {vs : List V} {xs : List Vl} (r : RVAll K G μ vs xs) : ∀ is : List Nat, RVAll K G μ (pick is vs) (pick is xs) := by
  have key : ∀ {vs : List V} {xs : List Vl}, RVAll K G μ vs xs → ∀ i : Nat, (∃ v x, vs[i]? = some v ∧ xs[i]? = some x ∧ RV K G μ v x) ∨ (vs[i]? = none ∧ xs[i]? = none) := by
    intro vs xs r
    induction r with
    | nil => intro i; exact .inr ⟨by simp, by simp⟩
    | cons r1 _ ih =>
      intro i
      cases i with
      | zero => exact .inl ⟨_, _, rfl, rfl, r1⟩
      | succ i => simpa using ih i
  intro is
  induction is with
  | nil => exact .nil
  | cons i is ih =>
    unfold pick at ih ⊢
    rw [List.filterMap_cons, List.filterMap_cons]
    rcases key r i with ⟨v, x, e1, e2, q⟩ | ⟨e1, e2⟩
    · rw [e1, e2]; exact .cons q ih
    · rw [e1, e2]; exact ih
/-- keywords ks, the parameters being those at is -/
structure KwB (K : PySem.W.Frag) (fd : FuncData) (ps ks : List Str) (is : List Nat) : Prop where
  to : ∀ (s : Shared) (ws : List Value), ws.length = ks.length → BindsTo s fd ⟨[], ks.zip ws⟩ (ps.zip (pick is ws))
structure FnDK (P : Program) (w : World) (K : PySem.W.Frag) (mg : Str → Option Value) (base : Heap) (x : Str) (ps ks : List Str) (is : List Nat) (g : FDen) (k : Nat) : Prop where
  fn : ∃ (f : Addr) (fd : FuncData), FnOk P w K mg base CX0 k f fd ps (spD K ps.length g) ∧ mg x = some (.ref f) ∧ PySem.W.keepIn K (.ref f) = true ∧ KwB K fd ps ks is
theorem FnD.kw {P : Program} {w : World} {mg : Str → Option Value} {base : Heap} {x : Str} {st : Stmt} {ps ks : List Str} {is : List Nat} {g : FDen} {k : Nat} (F : FnD P w K mg base x ps g k) (D : Def K mg x st ps)
    (h : ∀ (kV doc pm : Value) (an : Option Addr) (cdv ct : Value) (ws : List Value), ws.length = ks.length → bindArgs (PySem.W.fnOf x x (defArgs st) (defBody st) (defScope st) .none kV doc pm an cdv ct) ⟨[], ks.zip ws⟩ = pure (ps.zip (pick is ws))) :
    FnDK P w K mg base x ps ks is g k := by
  obtain ⟨f, fd, h1, h2, h3, h4, o, lk, od⟩ := F.fn
  obtain ⟨f', fd', F', hm, _⟩ := D.ex
  have ef : f' = f := by
    have := hm.symm.trans h2
    injection this with this
    injection this
  subst ef
  obtain ⟨oc, odd, kV, doc, pm, an, cdv, ct, osl, efd, lk', _⟩ := F'.ex
  rw [lk] at lk'
  have eo := Option.some.inj lk'
  rw [eo] at od
  injection od with od
  refine ⟨f', fd, h1, h2, h3, ⟨fun s ws hl => .of_eq ?_⟩⟩
  rw [← od, efd]
  exact h kV doc pm an cdv ct ws hl
variable {P : Program} {w : World} {mg : Str → Option Value} {base : Heap}
def dCalK (g : FDen) (is : List Nat) (fa : ADen) : EDen := fun ρ m => (fa ρ m).bind fun p => g (pick is p.1) p.2
theorem de_callK {x : Str} {p pos : Pos} {kws : List Keyword} {ps ks : List Str} {is : List Nat} {g : FDen} {k : Nat} {t : TA} {fa : ADen} (F : FnDK X.prog X.w X.K X.mg X.base x ps ks is g k) (hr : Room k X.A) (hgl : Gl X x) (ha : DK X kws t fa)
    (hl : ∀ ρ m p, fa ρ m = some p → p.1.length = ks.length) (hp : ∀ l : List V, l.length = ks.length → (pick is l).length = ps.length) (hall : (backToKw pos (keywordEach kws X.env)).all (·.1.isSome) = true := by rfl) (hks : (backToKw pos (keywordEach kws X.env)).filterMap (·.1) = ks := by rfl)
    (hdb : (x == ("__debug__" : Str)) = false := by decide) (hpl : ((backTo pos (starEach [] X.env)).any (·.1) || (backToKw pos (keywordEach kws X.env)).any (·.1.isNone)) = false := by rfl) :
    DE X (.Call (.Name x p) [] kws pos) (fun σ H Q => t σ H fun zs H1 => zs.length = ks.length ∧ spD X.K ps.length g (pick is zs) H1 Q E0) (dCalK g is fa) := by
  obtain ⟨f, fd, h1, h2, h3, h4⟩ := F.fn
  refine ⟨⟨fun pins s σ H Q I h => ?_⟩, ?_⟩
  · refine wpAny_Call_Name_kw (ld_glob I hgl h2 ?_ hdb)
    refine PySem.W.callWith_KW0 (h₀ := X.base) I.ok.mod.kin h3 hall (thn (ha.pk.run pos pins s σ H _ I h) fun ws s2 ⟨zs, H2, I2, rz, hzl, q2⟩ => ⟨I2.kIn, ?_⟩) hpl
    rw [hks]
    have r2 := pick_vals rz is
    have hwl : ws.length = ks.length := by rw [← rz.length]; exact hzl
    refine wpAny_call (codeAny_mono (h1.run X.A X.stack s2 H2 ⟨[], ks.zip ws⟩ (pick is ws) (pick is zs) Q E0 hr I2.env0 (h4.to s2 ws hwl) r2 q2) fun r s' hq => ?_)
    cases r with
    | error e => exact False.elim hq
    | ok fl =>
      cases fl with
      | ret u => exact I2.after hq
      | next => exact False.elim hq
      | brk => exact False.elim hq
      | cont => exact False.elim hq
  · intro σ ρ G F μ m H y m' Q W E h q
    unfold dCalK at h
    cases e1 : fa ρ m with
    | none => rw [e1] at h; cases h
    | some p =>
      rw [e1] at h
      simp only [Option.bind_some] at h
      refine ha.dn σ ρ G F μ m H p.1 p.2 _ W E e1 fun vs G1 μ1 H1 W1 g1 r1 => ?_
      have hvl : vs.length = ks.length := by rw [r1.length]; exact hl _ _ _ e1
      exact ⟨hvl, hp vs hvl, G1, F, μ1, p.2, pick is p.1, y, m', W1, pick_rv r1 is, h, Aft.of q g1⟩
end
end Dn
set_option Elab.async false
set_option linter.all false
set_option maxRecDepth 100000
namespace Dn
open PySem PySem.Spec PyProof.Rows L2

/-! ### zip of a list | a tuple with a list | a tuple -/
inductive Src where
  | l (a : Addr) | t (a : Addr)
def Src.a : Src → Addr
  | .l a => a
  | .t a => a
def SqS (K : PySem.W.Frag) (H : Hp) : Src → List V → Prop
  | .l a, xs => SqL K H a xs
  | .t a, xs => SqT K H a xs
def Src.it (h : Heap) (it : Addr) (i : Nat) : Src → Prop
  | .l a => h.IsListIter it a i
  | .t a => h.IsTupleIter it a i
def Src.has (h : Heap) (items : Array Value) : Src → Prop
  | .l a => h.IsList a items
  | .t a => h.IsTuple a items
def Src.ob : Src → Obj
  | .l a => { cls := .type "list_iterator", data := .fields #[.ref a, .int 0 0] }
  | .t a => { cls := .type "tuple_iterator", data := .fields #[.ref a, .int 0 0] }
theorem src_draws {prog : Program} {w : World} {A : Around} (hh : A.handled = none) (it : Addr) (s : Src) (hne : s.a ≠ it) (items : Array Value) :
    Draws prog w A it [it, s.a] items.size (fun i v => items[i]? = some v) (fun i h => s.it h it i ∧ s.has h items) := by
  cases s with
  | l a => exact Draws.list hh it a hne items
  | t a => exact Draws.tuple hh it a hne items
theorem src_begins (s : Src) (items : Array Value) : Begins (.ref s.a) s.ob (fun h => s.has h items) := by
  cases s with
  | l a => exact begins_list a items
  | t a => exact begins_tuple a items
theorem src_it {h h' : Heap} {it : Addr} {i : Nat} {s : Src} (x : s.it h it i) (k : ∀ o, h.get? it = some o → h'.get? it = some o) : s.it h' it i := by
  cases s with
  | l a => exact Heap.IsListIter.at (show h.IsListIter it a i from x) k
  | t a => exact Heap.IsTupleIter.at (show h.IsTupleIter it a i from x) k
theorem src_it_ob {h : Heap} {it : Addr} {i : Nat} {s : Src} (x : s.it h it i) : ∃ o, h.get? it = some o ∧ ∀ v, o.data ≠ .cell v := by
  cases s with
  | l a => obtain ⟨o, e, _, d⟩ := (show h.IsListIter it a i from x); exact ⟨o, e, fun v z => by rw [d] at z; cases z⟩
  | t a => obtain ⟨o, e, _, d⟩ := (show h.IsTupleIter it a i from x); exact ⟨o, e, fun v z => by rw [d] at z; cases z⟩
section
variable {X : Cx} {pins : List (Addr × Obj)} {σ : L2.St} {H : Hp} {s : Shared}
theorem inv_src (I : Inv X pins σ H s) {c : Src} {xs : List V} (h : SqS X.K H c xs) : ∃ its : List Value, Vals xs its ∧ c.has s.heap its.toArray := by
  cases c with
  | l a =>
    obtain ⟨its, r, p, _⟩ := I.list (show SqL X.K H a xs from h)
    exact ⟨its, r, p.isList⟩
  | t a =>
    obtain ⟨its, r, p, _⟩ := I.tuple (show SqT X.K H a xs from h)
    exact ⟨its, r, p⟩
theorem inv_src_inj (I : Inv X pins σ H s) {c : Src} {xs ys : List V} (h : SqS X.K H c xs) (h' : SqS X.K H c ys) : xs = ys := by
  cases c with
  | l a => exact I.list_inj (show SqL X.K H a xs from h) h'
  | t a => exact I.tuple_inj (show SqT X.K H a xs from h) h'
theorem has_lt {h : Heap} {c : Src} {items : Array Value} (x : c.has h items) : c.a < h.objs.size := by
  cases c with
  | l a => obtain ⟨o, e, _⟩ := (show h.IsList a items from x); exact Heap.lt_size e
  | t a => obtain ⟨o, e, _⟩ := (show h.IsTuple a items from x); exact Heap.lt_size e
end
def ItzM (K : PySem.W.Frag) (c d : Src) : It :=
  ⟨fun i H => ∃ (xs ys : List V) (x y : V), SqS K H c xs ∧ SqS K H d ys ∧ xs[i]? = some x ∧ ys[i]? = some y,
    fun i H v H' => ∃ T x y, v = .ref T ∧ H T = none ∧ H' = upd H T (.tup [x, y]) ∧ (∀ xs, SqS K H c xs → xs[i]? = some x) ∧ ∀ ys, SqS K H d ys → ys[i]? = some y,
    fun i H => ∃ xs ys : List V, SqS K H c xs ∧ SqS K H d ys ∧ i ≤ xs.length ∧ i ≤ ys.length ∧ (i = xs.length ∨ i = ys.length)⟩
theorem turn_zipM {P : Program} {w : World} {K : PySem.W.Frag} {elts : List Expr} {kk : Nat} {tpos : Pos} {c d : Src} {z TI TO i1 i2 : Addr} (S : ZipSep2 z TI TO i1 i2 [i1, c.a] [i2, d.a]) (n1 : c.a ≠ i1) (n2 : d.a ≠ i2) :
    Turn P w K (.Tuple elts kk tpos) (ItzM K c d) [z, TI, TO, i1, i2] z (fun i h => IsZip h z TI TO .none ∧ IsTupOf2 h TI (.ref i1) (.ref i2) ∧ (∃ x y, IsTupOf2 h TO x y) ∧ c.it h i1 i ∧ d.it h i2 i) where
  mem := by simp
  obj := fun i h st b hb => by
    obtain ⟨hz, hTI, ⟨x, y, hTO⟩, h1, h2⟩ := st
    have hb' : b = z ∨ b = TI ∨ b = TO ∨ b = i1 ∨ b = i2 := by simpa using hb
    rcases hb' with rfl | rfl | rfl | rfl | rfl
    · exact ⟨_, hz, fun v q => nomatch q⟩
    · exact ⟨_, hTI, fun v q => nomatch q⟩
    · exact ⟨_, hTO, fun v q => nomatch q⟩
    · exact src_it_ob h1
    · exact src_it_ob h2
  keep := fun i h h' st k => by
    obtain ⟨hz, hTI, ⟨x, y, hTO⟩, h1, h2⟩ := st
    exact ⟨k z (by simp) _ hz, k TI (by simp) _ hTI, ⟨x, y, k TO (by simp) _ hTO⟩, src_it h1 fun o q => k i1 (by simp) o q, src_it h2 fun o q => k i2 (by simp) o q⟩
  item := by
    intro X hP hw hK hc i pins s σ H E I hf st hg
    subst hP hw hK
    obtain ⟨hz, hTI, hTO, h1, h2⟩ := st
    obtain ⟨xs, ys, x, y, hqx, hqy, hx, hy⟩ := hg
    obtain ⟨its, rv, p⟩ := inv_src I hqx
    obtain ⟨its2, rv2, p2⟩ := inv_src I hqy
    have hh : X.A.in1.handled = none := I.ok.hd hc
    have Wk := WalksT.zipD2 (prog := X.prog) (w := X.w) (A := X.A) S (src_draws hh i1 c n1 its.toArray) (src_draws hh i2 d n2 its2.toArray)
    have l1 : i < its.length := by rw [← rv.length]; exact (List.getElem?_eq_some_iff.mp hx).1
    have l2 : i < its2.length := by rw [← rv2.length]; exact (List.getElem?_eq_some_iff.mp hy).1
    refine Wk.item i s _ _ (by rw [List.size_toArray, List.size_toArray]; omega) ⟨hz, hTI, hTO, ⟨h1, p⟩, ⟨h2, p2⟩⟩ fun T vals h' tk hP hsz hT hM hk => ?_
    obtain ⟨u, u2, e1, e2, rfl⟩ := hP
    have e1' : its[i]? = some u := by simpa using e1
    have e2' : its2[i]? = some u2 := by simpa using e2
    obtain ⟨ru', hu1, ru⟩ := rv.get hx
    obtain ⟨ru2', hu2, ru2⟩ := rv2.get hy
    rw [hu1] at e1'
    rw [hu2] at e2'
    cases e1'
    cases e2'
    have apart := Wk.apart i T h' hM
    refine ⟨_, rfl, Wk.go elts kk tpos i T { s with heap := h', toks := tk } _ _ hM fun h'' st' hk' => ?_⟩
    obtain ⟨oT, eT, cT, nT, dT⟩ := hT
    have hT2 : h''.get? T = some oT := hk' T oT apart eT
    have sub : ∀ b, b ∉ [z, TI, TO, i1, i2] → b ∉ [z, TO, i1, i2] := fun b hb hb' => hb (by
      simp only [List.mem_cons, List.not_mem_nil, or_false] at hb' ⊢
      rcases hb' with e | e | e | e <;> simp [e])
    have new : ObjOk X.prog X.w (upd H T (.tup [x, y])) h'' T (.tup [x, y]) := ⟨by show 2 ≤ sizeLine; decide, [u, u2], .cons ru (.cons ru2 .nil), ⟨oT, hT2, cT, nT, dT⟩⟩
    have I1 : Inv X pins σ (upd H T (.tup [x, y])) { s with heap := h'', toks := tk } :=
      I.turnedNew (t' := tk) (ch := [z, TI, TO, i1, i2]) (fun b o hb q => hk' b o (sub b hb) (hk b o (sub b hb) q)) hf hsz new
    obtain ⟨hz', hTI', hTO', ⟨q1, _⟩, ⟨q2, _⟩⟩ := st'
    refine ⟨.ref T, _, I1, rfl, ⟨T, x, y, rfl, I.hok.fresh hsz, rfl, fun l hl => by rw [inv_src_inj I hl hqx]; exact hx, fun l hl => by rw [inv_src_inj I hl hqy]; exact hy⟩, ⟨hz', hTI', hTO', q1, q2⟩, fun b hb => ?_⟩
    have hlt : b < s.heap.objs.size := by
      have hb' : b = z ∨ b = TI ∨ b = TO ∨ b = i1 ∨ b = i2 := by simpa using hb
      obtain ⟨a1, a2, hTO0⟩ := hTO
      rcases hb' with e | e | e | e | e
      · rw [e]; exact Heap.lt_size hz
      · rw [e]; exact Heap.lt_size hTI
      · rw [e]; exact Heap.lt_size hTO0
      · rw [e]; obtain ⟨o, q, _⟩ := src_it_ob h1; exact Heap.lt_size q
      · rw [e]; obtain ⟨o, q, _⟩ := src_it_ob h2; exact Heap.lt_size q
    rw [upd_ne (Nat.ne_of_lt (Nat.lt_of_lt_of_le hlt hsz))]
    exact (hf b hb).1
  done := by
    intro X hP hw hK hc i pins s σ H E I hf st hg
    subst hP hw hK
    obtain ⟨hz, hTI, ⟨a1, a2, hTO⟩, h1, h2⟩ := st
    obtain ⟨xs, ys, hqx, hqy, le1, le2, hend⟩ := hg
    obtain ⟨its, rv, p⟩ := inv_src I hqx
    obtain ⟨its2, rv2, p2⟩ := inv_src I hqy
    have hh : X.A.in1.handled = none := I.ok.hd hc
    have e1 := rv.length
    have e2 := rv2.length
    refine wpAny_pyNext_zipD2_end S (src_draws hh i1 c n1 its.toArray) (src_draws hh i2 d n2 its2.toArray) hz hTI hTO ⟨h1, p⟩ ⟨h2, p2⟩ (by rw [List.size_toArray]; omega) (by rw [List.size_toArray]; omega) (by rw [List.size_toArray, List.size_toArray]; omega) fun h' tk hk => ⟨rfl, ?_⟩
    refine I.turnedL (t' := tk) (ch := [z, TI, TO, i1, i2]) (fun b o hb q => ?_) hf
    simp only [List.mem_cons, List.not_mem_nil, or_false, not_or] at hb
    exact hk b o hb.1 hb.2.2.1 hb.2.2.2.1 hb.2.2.2.2 q
  self := fun A i s Q E st h => wpAny_pyIter_zip st.1 h

/-- the source that a value is -/
def srcOf (K : PySem.W.Frag) (H : Hp) (v : V) (c : Src) (xs : List V) : Prop := v = .ref c.a ∧ SqS K H c xs
def iZipM (K : PySem.W.Frag) (ta : TA) : TI := fun σ H R => ta σ H fun vs H1 => ∃ (c d : Src) (xs ys : List V), vs = [.ref c.a, .ref d.a] ∧ SqS K H1 c xs ∧ SqS K H1 d ys ∧ R (ItzM K c d) H1
theorem pi_zipM {X : Cx} {e e2 : Expr} {ta : TA} {p pos tpos : Pos} {elts : List Expr} {kk : Nat} (hg : Gl X "zip") (hm : X.mg "zip" = none) (ha : PA X [e, e2] ta)
    (hs : starEach [e, e2] X.env = (false, eval e X.env) :: starEach [e2] X.env := by rfl) (hpl : (backTo pos (starEach [e2] X.env)).any (·.1) = false := by rfl) :
    PI X (.Tuple elts kk tpos) (.Call (.Name "zip" p) [e, e2] [] pos) (iZipM X.K ta) := by
  refine ⟨fun pins s σ H R I h => ?_⟩
  refine Call_ (ld_blt I hg hm PyProof.Rows.boot_zip (PyProof.Rows.callWith_type1 (thn (ha.run pos pins s σ H _ I h) ?_) hs hpl))
  rintro us s1 ⟨vs, H1, I1, r1, c, d, xs, ys, rfl, hx, hy, q⟩
  obtain ⟨u1, u2, rfl, ru1, ru2⟩ := vals2 r1
  cases (show u1 = Value.ref c.a from ru1)
  cases (show u2 = Value.ref d.a from ru2)
  obtain ⟨its, rv, p1⟩ := inv_src I1 hx
  obtain ⟨its2, rv2, p2⟩ := inv_src I1 hy
  have lc := has_lt p1
  have ld := has_lt p2
  refine zip_begins2 (src_begins c its.toArray) (src_begins d its2.toArray) p1 p2 fun h' hz hTI hTO e1 e2 hsz hk => wpAny_pyIter_zip hz ?_
  have I2 : Inv X pins σ H1 { s1 with heap := h' } := I1.kept (t' := s1.toks) hk
  have it1 : c.it h' s1.heap.objs.size 0 := by
    cases c with
    | l a => exact ⟨_, e1, rfl, rfl⟩
    | t a => exact ⟨_, e1, rfl, rfl⟩
  have it2 : d.it h' (s1.heap.objs.size + 1) 0 := by
    cases d with
    | l a => exact ⟨_, e2, rfl, rfl⟩
    | t a => exact ⟨_, e2, rfl, rfl⟩
  have S := zip_sep2 (N := s1.heap.objs.size) (fp1 := [c.a]) (fp2 := [d.a]) (fun b hb => by rw [List.mem_singleton] at hb; rw [hb]; exact lc) (fun b hb => by rw [List.mem_singleton] at hb; rw [hb]; exact ld)
  have n1 : c.a ≠ s1.heap.objs.size := Nat.ne_of_lt lc
  have n2 : d.a ≠ s1.heap.objs.size + 1 := Nat.ne_of_lt (Nat.lt_succ_of_lt ld)
  refine ⟨_, [s1.heap.objs.size + 4, s1.heap.objs.size + 2, s1.heap.objs.size + 3, s1.heap.objs.size, s1.heap.objs.size + 1], _, _, H1, rfl, I2, turn_zipM S n1 n2, ⟨hz, hTI, ⟨_, _, hTO⟩, it1, it2⟩, fun b hb => ?_, q⟩
  have hle : s1.heap.objs.size ≤ b := by
    simp only [List.mem_cons, List.not_mem_nil, or_false] at hb
    rcases hb with e | e | e | e | e <;> (rw [e]; first | exact Nat.le_add_right _ _ | exact Nat.le_refl _)
  exact I1.fpOk hle (I1.hok.fresh hle)
/-- the pairs of two rows -/
def zipD : List D → List D → List D
  | x :: xs, y :: ys => .tup [x, y] :: zipD xs ys
  | _, _ => []
theorem zipD_get : ∀ {xs ys : List D} {k : Nat} {d : D}, (zipD xs ys)[k]? = some d → ∃ x y, xs[k]? = some x ∧ ys[k]? = some y ∧ d = .tup [x, y]
  | [], _, _, _, h => by simp [zipD] at h
  | _ :: _, [], _, _, h => by simp [zipD] at h
  | x :: xs, y :: ys, 0, d, h => by
    simp [zipD] at h
    exact ⟨x, y, rfl, rfl, h.symm⟩
  | x :: xs, y :: ys, k + 1, d, h => by
    have h' : (zipD xs ys)[k]? = some d := by simpa [zipD] using h
    obtain ⟨a, b, e1, e2, e3⟩ := zipD_get h'
    exact ⟨a, b, by simpa using e1, by simpa using e2, e3⟩
theorem zipD_len : ∀ xs ys : List D, (zipD xs ys).length = min xs.length ys.length
  | [], _ => by simp [zipD]
  | _ :: _, [] => by simp [zipD]
  | x :: xs, y :: ys => by
    show (zipD xs ys).length + 1 = _
    rw [zipD_len xs ys, List.length_cons, List.length_cons]
    omega
def iZip (fa fb : EDen) : IDen := fun ρ m => (fa ρ m).bind fun p => (fb ρ p.2).bind fun q => match p.1, q.1 with
  | .dat a, .dat b => (seqV [] (.dat a)).bind fun xs => (seqV [] (.dat b)).map fun ys => (⟨zipD xs ys, none⟩, q.2)
  | _, _ => none
section
variable {X : Cx} {K : PySem.W.Frag} {a b : Expr} {ta tb : TE} {fa fb : EDen}
theorem seqV_src {G : Hp} {v : V} {d : D} {l : List D} (r : Rp K G v d) (h : seqV [] (.dat d) = some l) : ∃ (c : Src) (xs : List V), v = .ref c.a ∧ SqS K G c xs ∧ RpAll K G xs l := by
  cases r with
  | lst e ra => cases h; exact ⟨.l _, _, rfl, SqL.of e, ra⟩
  | frl e ra => cases h; exact ⟨.l _, _, rfl, e, ra⟩
  | tup e ra => cases h; exact ⟨.t _, _, rfl, e, ra⟩
  | _ => cases h
theorem sub_sqs {G H : Hp} (h : Sub G H) {c : Src} {xs : List V} (q : SqS K G c xs) : SqS K H c xs := by
  cases c with
  | l a => exact sub_sql h q
  | t a => exact sub_sqt h q
theorem itz_ok {G : Hp} {μ : List Addr} {c d : Src} {xs ys : List V} {as bs : List D} (hc : SqS K G c xs) (hd : SqS K G d ys) (ra : RpAll K G xs as) (rb : RpAll K G ys bs) : ItOk K (ItzM K c d) G μ ⟨zipD as bs, none⟩ := by
  intro G' F' μ' m' H' W g _ k
  have hc' := sub_sqs (g.g.trans W.g) hc
  have hd' := sub_sqs (g.g.trans W.g) hd
  refine ⟨fun e he => ?_, fun hk => ?_⟩
  · obtain ⟨x, y, e1, e2, rfl⟩ := zipD_get he
    obtain ⟨v, hv, rv⟩ := ra.get e1
    obtain ⟨u, hu, ru⟩ := rb.get e2
    refine ⟨⟨xs, ys, v, u, hc', hd', hv, hu⟩, fun z H'' hy => ?_⟩
    obtain ⟨T, v', u', rfl, hT, rfl, f1, f2⟩ := hy
    have ev : v' = v := Option.some.inj ((f1 xs hc').symm.trans hv)
    have eu : u' = u := Option.some.inj ((f2 ys hd').symm.trans hu)
    subst ev eu
    exact ⟨_, W.new hT, Gr.new (W.new_g hT), rp_newT (W.new_g hT) (.cons (Rp.mono g.g _ _ rv) (.cons (Rp.mono g.g _ _ ru) .nil))⟩
  · have hk' : min as.length bs.length = k := by rw [← zipD_len]; exact hk
    have e1 := ra.length
    have e2 := rb.length
    exact ⟨xs, ys, hc', hd', by omega, by omega, by omega⟩
theorem di_zip {p pos tpos : Pos} {elts : List Expr} {kk : Nat} (hg : Gl X "zip") (hm : X.mg "zip" = none) (ha : DE X a ta fa) (hb : DE X b tb fb) (hs1 : starEach [b] X.env = (false, eval b X.env) :: starEach [] X.env := by rfl)
    (hs : starEach [a, b] X.env = (false, eval a X.env) :: starEach [b] X.env := by rfl) (hpl : (backTo pos (starEach [b] X.env)).any (·.1) = false := by rfl) :
    DI X (.Tuple elts kk tpos) (.Call (.Name "zip" p) [a, b] [] pos) (iZipM X.K (tCons ta (tCons tb tNil))) (iZip fa fb) := ⟨pi_zipM hg hm (pa_cons ha.pe (pa_cons hb.pe pa_nil hs1) hs) hs hpl, by
  intro σ ρ G F μ m H its m' R W E h q
  unfold iZip at h
  cases e1 : fa ρ m with
  | none => rw [e1] at h; cases h
  | some p =>
  rw [e1] at h
  obtain ⟨y, m1⟩ := p
  simp only [Option.bind_some] at h
  cases e2 : fb ρ m1 with
  | none => rw [e2] at h; cases h
  | some p2 =>
  rw [e2] at h
  obtain ⟨y2, m2⟩ := p2
  simp only [Option.bind_some] at h
  refine ha.dn σ ρ G F μ m H y m1 _ W E e1 fun v G1 μ1 H1 W1 g1 r1 => ?_
  refine hb.dn σ ρ G1 F μ1 m1 H1 y2 m2 _ W1 (E.mono g1) e2 fun u G2 μ2 H2 W2 g2 r2 => ?_
  split at h
  · rename_i d1 d2
    cases e3 : seqV [] (.dat d1) with
    | none => rw [e3] at h; cases h
    | some xs =>
    rw [e3] at h
    simp only [Option.bind_some] at h
    cases e4 : seqV [] (.dat d2) with
    | none => rw [e4] at h; cases h
    | some ys =>
    rw [e4] at h
    cases h
    cases r1 with
    | dat r1 =>
    cases r2 with
    | dat r2 =>
    obtain ⟨c, vs, rfl, hc, rc⟩ := seqV_src (Rp.mono g2.g _ _ r1) e3
    obtain ⟨d, us, rfl, hd, rd⟩ := seqV_src r2 e4
    exact ⟨c, d, vs, us, rfl, sub_sqs W2.g hc, sub_sqs W2.g hd, q _ G2 μ2 H2 W2 (g1.trans g2) (SrcOk.no rfl) (itz_ok hc hd rc rd)⟩
  · cases h⟩
end
end Dn
set_option Elab.async false
set_option linter.all false
set_option maxRecDepth 100000
namespace Dn
open PySem PySem.Spec PyProof.Rows L2

/-! ### keys: whole numbers and tuples of these -/
mutual
def nk : D → Option NestedKey
  | .int i => some (.num i)
  | .tup l => (nkAll l).map .tup
  | _ => none
def nkAll : List D → Option (List NestedKey)
  | [] => some []
  | d :: ds => (nk d).bind fun k => (nkAll ds).map fun ks => k :: ks
end
mutual
inductive NkV (K : PySem.W.Frag) (H : Hp) : V → NestedKey → Prop
  | int (i : Int) : NkV K H (.int i) (.num i)
  | tup {a : Addr} {xs : List V} {ks : List NestedKey} : SqT K H a xs → NkAll K H xs ks → NkV K H (.ref a) (.tup ks)
inductive NkAll (K : PySem.W.Frag) (H : Hp) : List V → List NestedKey → Prop
  | nil : NkAll K H [] []
  | cons {v : V} {vs : List V} {k : NestedKey} {ks : List NestedKey} : NkV K H v k → NkAll K H vs ks → NkAll K H (v :: vs) (k :: ks)
end
section
variable {K : PySem.W.Frag} {G H : Hp}
mutual
theorem nk_v : ∀ (d : D) (v : V) (k : NestedKey), Rp K G v d → nk d = some k → NkV K G v k
  | .int i, _, _, r, e => by cases r; unfold nk at e; cases e; exact .int i
  | .tup l, _, _, r, e => by
    cases r with
    | tup h ra =>
    unfold nk at e
    cases h1 : nkAll l with
    | none => rw [h1] at e; cases e
    | some ks => rw [h1] at e; cases e; exact .tup h (nk_vAll l _ _ ra h1)
  | .non, _, _, _, e => by unfold nk at e; cases e
  | .bl _, _, _, _, e => by unfold nk at e; cases e
  | .str _, _, _, _, e => by unfold nk at e; cases e
  | .ty _, _, _, _, e => by unfold nk at e; cases e
  | .lst _, _, _, _, e => by unfold nk at e; cases e
  | .frl _, _, _, _, e => by unfold nk at e; cases e
  | .dct _ _, _, _, _, e => by unfold nk at e; cases e
theorem nk_vAll : ∀ (ds : List D) (vs : List V) (ks : List NestedKey), RpAll K G vs ds → nkAll ds = some ks → NkAll K G vs ks
  | [], _, _, r, e => by cases r; unfold nkAll at e; cases e; exact .nil
  | d :: ds, _, _, r, e => by
    cases r with
    | cons r1 r2 =>
    unfold nkAll at e
    cases h1 : nk d with
    | none => rw [h1] at e; cases e
    | some k =>
      rw [h1] at e
      simp only [Option.bind_some] at e
      cases h2 : nkAll ds with
      | none => rw [h2] at e; cases e
      | some ks => rw [h2] at e; cases e; exact .cons (nk_v d _ _ r1 h1) (nk_vAll ds _ _ r2 h2)
end
mutual
theorem NkV.up (h : Sub G H) : ∀ (k : NestedKey) (v : V), NkV K G v k → NkV K H v k
  | .num _, _, r => by cases r; exact .int _
  | .tup ks, _, r => by cases r with | tup q ra => exact .tup (sub_sqt h q) (NkAll.up h ks _ ra)
  | .none, _, r => by cases r
  | .text _, _, r => by cases r
theorem NkAll.up (h : Sub G H) : ∀ (ks : List NestedKey) (vs : List V), NkAll K G vs ks → NkAll K H vs ks
  | [], _, r => by cases r; exact .nil
  | k :: ks, _, r => by cases r with | cons r1 r2 => exact .cons (NkV.up h k _ r1) (NkAll.up h ks _ r2)
end
end
section
variable {X : Cx} {pins : List (Addr × Obj)} {σ : L2.St} {H : Hp} {s : Shared}
mutual
theorem NkV.is (I : Inv X pins σ H s) : ∀ (k : NestedKey) (v : V) (u : Value), NkV X.K H v k → RelV v u → NestedIs s.heap k u
  | .num i, _, _, h, r => by
    cases h
    obtain ⟨t, rfl⟩ := r
    exact .int i t
  | .tup ks, _, _, h, r => by
    cases h with
    | tup hs ha =>
    cases r
    obtain ⟨its, rv, ⟨o, ho, hc, n, hd⟩, _⟩ := I.tuple hs
    exact .tup ho hc hd (NkAll.is I ks _ _ ha rv)
  | .none, _, _, h, _ => by cases h
  | .text _, _, _, h, _ => by cases h
theorem NkAll.is (I : Inv X pins σ H s) : ∀ (ks : List NestedKey) (vs : List V) (us : List Value), NkAll X.K H vs ks → Vals vs us → NestedAll s.heap ks us
  | [], _, _, h, r => by cases h; cases r; exact .nil
  | k :: ks, _, _, h, r => by
    cases h with
    | cons h1 h2 =>
    cases r with
    | cons r1 r2 => exact .cons (NkV.is I k _ _ h1 r1) (NkAll.is I ks _ _ h2 r2)
end
end

/-! ### {x: True for x in xs}, the items tuples; list of it -/
abbrev KRow := NestedKey × Addr
/-- a row is put where its key is not there yet -/
def uqPut {α : Type} (rs : List (NestedKey × α)) (r : NestedKey × α) : List (NestedKey × α) := if r.1 ∈ rs.map (·.1) then rs else rs ++ [r]
def uq {α : Type} (rs : List (NestedKey × α)) : List (NestedKey × α) := rs.foldl uqPut []
theorem uqPut_map {α β : Type} (f : α → β) (rs : List (NestedKey × α)) (r : NestedKey × α) : uqPut (rs.map fun x => (x.1, f x.2)) (r.1, f r.2) = (uqPut rs r).map fun x => (x.1, f x.2) := by
  have e : ((rs.map fun x => (x.1, f x.2)).map (·.1)) = rs.map (·.1) := by rw [List.map_map]; rfl
  unfold uqPut
  rw [e]
  split
  · rfl
  · rw [List.map_append]; rfl
theorem uq_map {α β : Type} (f : α → β) (rs : List (NestedKey × α)) : uq (rs.map fun x => (x.1, f x.2)) = (uq rs).map fun x => (x.1, f x.2) := by
  have key : ∀ (rs acc : List (NestedKey × α)), (rs.map fun x => (x.1, f x.2)).foldl uqPut (acc.map fun x => (x.1, f x.2)) = (rs.foldl uqPut acc).map fun x => (x.1, f x.2) := by
    intro rs
    induction rs with
    | nil => intro acc; rfl
    | cons r rs ih =>
      intro acc
      rw [List.map_cons, List.foldl_cons, List.foldl_cons, uqPut_map, ih]
  exact key rs []
def ndEntry (w : World) (r : KRow) : DictEntry := ⟨r.1.hash w, .ref r.2, .bool true⟩
def ndO (w : World) (a : Addr) (rs : List KRow) : HO := .ext fun h => (a == sysModules) = false ∧ ∃ o es ep, h.get? a = some o ∧ o.ExactDict ∧ o.data = .dict es ep ∧ es.toList = rs.map (ndEntry w)
theorem ndO_ok {P : Program} {w : World} {H : Hp} {h : Heap} {a : Addr} {rs : List KRow} (ha : (a == sysModules) = false) (x : ∃ o es ep, h.get? a = some o ∧ o.ExactDict ∧ o.data = .dict es ep ∧ es.toList = rs.map (ndEntry w)) : ObjOk P w H h a (ndO w a rs) :=
  ⟨⟨ha, x⟩, let ⟨o, _, _, e, _⟩ := x; ⟨o, e⟩, fun h1 h2 ⟨h0, o, es, ep, e, r⟩ k => ⟨h0, o, es, ep, k _ e, r⟩⟩
theorem uqPut_stored {xs : List (NestedKey × Addr × Value)} {k : NestedKey} {a : Addr} {rs : List KRow} (h : xs = rs.map fun r => (r.1, r.2, Value.bool true)) : storedH xs k a (.bool true) = (uqPut rs (k, a)).map fun r => (r.1, r.2, Value.bool true) := by
  subst h
  have hkeys : ((rs.map fun r => (r.1, r.2, Value.bool true)).map (·.1)) = rs.map (·.1) := by rw [List.map_map]; rfl
  unfold uqPut
  by_cases hk : k ∈ rs.map (·.1)
  · rw [if_pos hk]
    have hs : (atKey (rs.map fun r => (r.1, r.2, Value.bool true)) k).isSome = true := by
      cases e : atKey (rs.map fun r => (r.1, r.2, Value.bool true)) k with
      | some p => rfl
      | none =>
        unfold atKey at e
        rw [Option.map_eq_none_iff, List.find?_eq_none] at e
        obtain ⟨r, hr, er⟩ := List.mem_map.mp hk
        have := e (r.1, r.2, Value.bool true) (List.mem_map.mpr ⟨r, hr, rfl⟩)
        exact absurd (decide_eq_true er) this
    unfold storedH
    rw [if_pos hs, List.map_map]
    refine List.map_congr_left fun r _ => ?_
    show putAt k (Value.bool true) (r.1, r.2, Value.bool true) = (r.1, r.2, Value.bool true)
    unfold putAt
    split <;> rfl
  · rw [if_neg hk]
    have hs : atKey (rs.map fun r => (r.1, r.2, Value.bool true)) k = none := by
      unfold atKey
      rw [Option.map_eq_none_iff, List.find?_eq_none]
      intro x hx e
      obtain ⟨r, hr, rfl⟩ := List.mem_map.mp hx
      exact hk (List.mem_map.mpr ⟨r, hr, of_decide_eq_true e⟩)
    rw [storedH_new hs, List.map_append]
    rfl
theorem uqPut_nodup {α : Type} {rs : List (NestedKey × α)} {r : NestedKey × α} (h : (rs.map (·.1)).Nodup) : ((uqPut rs r).map (·.1)).Nodup := by
  unfold uqPut
  split
  · exact h
  · rename_i hn
    rw [List.map_append, List.nodup_append]
    refine ⟨h, by simp, fun a ha b hb e => ?_⟩
    have eb : b = r.1 := by simpa using hb
    exact hn (by rw [← eb, ← e]; exact ha)
theorem uqPut_len {α : Type} {rs : List (NestedKey × α)} {r : NestedKey × α} : (uqPut rs r).length ≤ rs.length + 1 := by
  unfold uqPut
  split
  · omega
  · rw [List.length_append]; exact Nat.le_refl _
theorem uqPut_mem {α : Type} {rs : List (NestedKey × α)} {r x : NestedKey × α} (h : x ∈ uqPut rs r) : x ∈ rs ∨ x = r := by
  unfold uqPut at h
  split at h
  · exact .inl h
  · rcases List.mem_append.mp h with h | h
    · exact .inl h
    · exact .inr (by simpa using h)
theorem uq_snoc (rs : List KRow) (r : KRow) : uq (rs ++ [r]) = uqPut (uq rs) r := by unfold uq; rw [List.foldl_append]; rfl
theorem uq_mem {α : Type} : ∀ (rs : List (NestedKey × α)) (acc : List (NestedKey × α)) (x : NestedKey × α), x ∈ rs.foldl uqPut acc → x ∈ acc ∨ x ∈ rs
  | [], _, _, h => .inl h
  | r :: rs, acc, x, h => by
    rcases uq_mem rs _ x h with h | h
    · rcases uqPut_mem h with h | h
      · exact .inl h
      · exact .inr (by rw [h]; exact List.mem_cons_self)
    · exact .inr (List.mem_cons_of_mem _ h)
theorem uq_len {α : Type} : ∀ (rs : List (NestedKey × α)) (acc : List (NestedKey × α)), (rs.foldl uqPut acc).length ≤ acc.length + rs.length
  | [], _ => Nat.le_refl _
  | r :: rs, acc => by
    have h := uq_len rs (uqPut acc r)
    have h2 := uqPut_len (rs := acc) (r := r)
    rw [List.length_cons]
    show (rs.foldl uqPut (uqPut acc r)).length ≤ _
    omega
/-- the rows of items -/
def RowsOf (K : PySem.W.Frag) (H : Hp) (rs : List KRow) : Prop := ∀ r ∈ rs, NkV K H (.ref r.2) r.1 ∧ r.1.depth ≤ 8
def tNdc (K : PySem.W.Frag) (w : World) (te : TE) : TE := fun σ H Q => te σ H fun x H1 => ∃ (c : Src) (rs : List KRow), x = .ref c.a ∧ SqS K H1 c (rs.map fun r => .ref r.2) ∧ RowsOf K H1 rs ∧ rs.length ≤ 1000000 ∧ ∀ p, H1 p = none → Q (.ref p) (upd H1 p (ndO w p (uq rs)))
theorem src_goes {prog : Program} {w : World} {A : Around} {target : Expr} (hh : A.handled = none) (I : Addr) (c : Src) (hne : c.a ≠ I) (items : Array Value) : Goes prog w A target I [I, c.a] [I] items.size (fun i v _ => items[i]? = some v) (fun i h => c.it h I i ∧ c.has h items) := by
  cases c with
  | l a => exact Goes.list hh I a hne items
  | t a => exact Goes.tuple hh I a hne items
theorem vals_refs : ∀ {rs : List KRow} {us : List Value}, Vals (rs.map fun r => V.ref r.2) us → us = rs.map fun r => Value.ref r.2
  | [], _, r => by cases r; rfl
  | r :: rs, _, h => by
    cases h with
    | cons r1 r2 =>
    rw [vals_refs r2, List.map_cons]
    rw [show _ = Value.ref r.2 from r1]
theorem pe_ndc {X : Cx} {x : Str} {iter : Expr} {scope : Scope} {te : TE} {kk : Nat} {pk pt pv' pos : Pos} (hc : X.calm = true) (hu : X.A.units + 70 < cLine) (hi : PE X iter te) (hkind : scope.kind = .function) (hsc : scope.names.all (fun y => y.2 == .local && scope.names.lookup y.1 == some .local) = true) (hlook : scope.names.lookup x = some .local)
    (hd : (x == ("__debug__" : Str)) = false := by decide) (hs : ∀ x, foldedSetIterable iter X.env x = pure x := by intro _; rfl) :
    PE X (.DictComp (.Name x pk) (.Constant (.bool true) kk pv') [⟨.Name x pt, iter, [], 0⟩] scope pos) (tNdc X.K X.w te) := by
  refine ⟨fun pins s σ H Q I h => ?_⟩
  have hall : ∀ y ∈ scope.names, y.2 = .local ∧ scope.names.lookup y.1 = some .local := fun y hy => by
    have := List.all_eq_true.mp hsc y hy
    rw [Bool.and_eq_true, beq_iff_eq, beq_iff_eq] at this
    exact this
  have hclos : closureFor scope X.env = pure (cloFrom X.env.cells scope.names []) := closure_ok fun y hy e => by
    rw [(hall y hy).1] at e; cases e
  refine DictComp_goes hclos (fun y hy => by rw [(hall y hy).1]; exact fun e => by cases e) hkind (fun y hy _ => (hall y hy).2) ?_ hs
  refine thn (hi.run pins s σ H _ I h) ?_
  rintro u s1 ⟨v, H1, I1, rv, c, rs, rfl, hsq, hrows, hlen, q⟩
  cases (show u = Value.ref c.a from rv)
  obtain ⟨its, rvs, hhas⟩ := inv_src I1 hsq
  have eits := vals_refs rvs
  have hh : X.A.handled = none := I1.ok.hd hc
  have hlt := has_lt hhas
  refine (src_begins c its.toArray).iter _ _ _ _ _ _ hhas ?_
  have hne : c.a ≠ s1.heap.objs.size := Nat.ne_of_lt hlt
  have it0 : c.it (s1.heap.push c.ob) s1.heap.objs.size 0 := by
    cases c with
    | l a => exact ⟨_, Heap.get?_push_size _ rfl, rfl, rfl⟩
    | t a => exact ⟨_, Heap.get?_push_size _ rfl, rfl, rfl⟩
  refine ⟨s1.heap.objs.size, _, _, _, _, _, rfl, src_goes hh _ c hne its.toArray, ⟨it0, (src_begins c its.toArray).keeps _ _ hhas fun b o e => Heap.get?_push_of_some _ e⟩, fun Dd C s₃ hB hDd => ?_⟩
  obtain ⟨⟨h₃, tk₃, rfl⟩, old, nD, nC, hDC, hnm⟩ := hB
  have sz : (s1.heap.push c.ob).objs.size = s1.heap.objs.size + 1 := Heap.size_push ..
  have nC' : s1.heap.objs.size + 1 ≤ C := by rw [← sz]; exact nC
  have nD' : s1.heap.objs.size + 1 ≤ Dd := by rw [← sz]; exact nD
  have kx : (compEnvC scope (cloFrom X.env.cells scope.names []) C X.env).kindOf x = some .local := lookup_relabel_local hlook
  have hp : ((compEnvC scope (cloFrom X.env.cells scope.names []) C X.env).scope.kind == .class || ((compEnvC scope (cloFrom X.env.cells scope.names []) C X.env).scope.kind == .module && (compEnvC scope (cloFrom X.env.cells scope.names []) C X.env).locals != (compEnvC scope (cloFrom X.env.cells scope.names []) C X.env).globals)) = false := by
    show (scope.kind == .class || (scope.kind == .module && _)) = false
    rw [hkind]; rfl
  have keep1 : ∀ b o, s1.heap.get? b = some o → h₃.get? b = some o := fun b o e => old b o (Heap.get?_push_of_some _ e)
  have big := I1.big
  have nsys : (Dd == sysModules) = false := beq_eq_false_iff_ne.mpr (Nat.ne_of_gt (Nat.lt_of_lt_of_le big (Nat.le_trans (Nat.le_succ _) nD')))
  have room : X.A.units + 8 < cLine := by omega
  refine ⟨fun i s' => ∃ h' tk m, s' = { s1 with heap := h', toks := tk } ∧ h'.Ns C m ∧ (∀ b o, s1.heap.get? b = some o → h'.get? b = some o) ∧ h'.DictOfH (nestedKind X.prog X.w) Dd ((uq (rs.take i)).map fun r => (r.1, r.2, Value.bool true)),
    ⟨h₃, tk₃, _, rfl, hnm, keep1, _, #[], 0, hDd, ⟨rfl, rfl, rfl⟩, rfl, rfl, fun x hx => absurd hx (by simp [uq]), by simp [uq]⟩, ?_, ?_, ?_⟩
  · rintro i s' h' tk ⟨h₄, tk₄, m, rfl, n₄, k₄, d₄⟩ hk' _
    have hC : C ∉ [s1.heap.objs.size] := by rw [List.mem_singleton]; exact Nat.ne_of_gt nC'
    have hDn : Dd ∉ [s1.heap.objs.size] := by rw [List.mem_singleton]; exact Nat.ne_of_gt nD'
    have hold : ∀ b o, s1.heap.get? b = some o → h'.get? b = some o := fun b o e => hk' b o (by rw [List.mem_singleton]; exact Nat.ne_of_lt (Heap.lt_size e)) (k₄ b o e)
    refine ⟨h', tk, m, rfl, n₄.at' fun o e => hk' _ o hC e, hold, d₄.at' (fun o e => hk' _ o hDn e) fun y hy => ?_⟩
    obtain ⟨r, hr, rfl⟩ := List.mem_map.mp hy
    have hr' : r ∈ rs := by
      rcases uq_mem _ _ _ hr with z | z
      · cases z
      · exact List.mem_of_mem_take z
    exact ⟨NestedIs.at (fun b o vs n e _ => hold b o e) _ _ (NkV.is I1 _ _ _ (hrows r hr').1 rfl), (hrows r hr').2⟩
  · rintro i v s' hi hv st ⟨h₄, tk₄, m, rfl, n₄, k₄, d₄⟩
    have hil : i < rs.length := by
      have := rvs.length
      rw [List.length_map] at this
      rw [List.size_toArray] at hi
      omega
    have hri : rs[i]? = some rs[i] := List.getElem?_eq_getElem hil
    generalize rs[i] = r at hri
    have hvr : v = Value.ref r.2 := by
      have e1 : its[i]? = some v := by simpa using hv
      rw [eits, List.getElem?_map, hri] at e1
      exact (Option.some.inj e1).symm
    subst hvr
    refine wpAny_assign_Name (wpAny_storeName_local kx n₄ (fun h₅ n₅ s₅ => ?_) hp)
    refine wpAny_tests_nil ?_
    rw [if_pos rfl]
    refine wpAny_Name (wpAny_loadName_local hkind kx n₅ (v := Value.ref r.2) (if_pos rfl) ?_) hd
    refine Constant_bool ?_
    have offC : ∀ b o, s1.heap.get? b = some o → b ≠ C := fun b o e => Nat.ne_of_lt (Nat.lt_of_lt_of_le (Heap.lt_size e) (Nat.le_trans (Nat.le_succ _) nC'))
    have k5 : ∀ b o, s1.heap.get? b = some o → h₅.get? b = some o := fun b o e => s₅.extBut b o (offC b o e) (k₄ b o e)
    have isk : ∀ r' ∈ rs, (nestedKind X.prog X.w).is h₅ r'.1 r'.2 := fun r' hr' => ⟨NestedIs.at (fun b o vs n e _ => k5 b o e) _ _ (NkV.is I1 _ _ _ (hrows r' hr').1 rfl), (hrows r' hr').2⟩
    have hmem : r ∈ rs := List.mem_of_getElem? hri
    have d5 : h₅.DictOfH (nestedKind X.prog X.w) Dd ((uq (rs.take i)).map fun r => (r.1, r.2, Value.bool true)) := d₄.at' (fun o e => s₅.extBut _ o hDC e) fun y hy => by
      obtain ⟨r', hr', rfl⟩ := List.mem_map.mp hy
      refine isk r' ?_
      rcases uq_mem _ _ _ hr' with z | z
      · cases z
      · exact List.mem_of_mem_take z
    refine wpAny_dictSet_heap (knd := nestedKind X.prog X.w) (k := r.1) room (isk r hmem) d5 (fun h₆ d₆ s₆ => ?_) ?_
    · have off6 : ∀ b o, s1.heap.get? b = some o → b ≠ Dd := fun b o e => Nat.ne_of_lt (Nat.lt_of_lt_of_le (Heap.lt_size e) (Nat.le_trans (Nat.le_succ _) nD'))
      refine ⟨⟨h₆, _, _, rfl, n₅.sameBut s₆ (Ne.symm hDC), fun b o e => s₆.extBut b o (off6 b o e) (k5 b o e), ?_⟩, ?_⟩
      · rw [uqPut_stored rfl, ← uq_snoc] at d₆
        have et : rs.take (i + 1) = rs.take i ++ [r] := by rw [List.take_add_one, hri]; rfl
        rw [et]
        exact d₆
      · obtain ⟨q1, q2⟩ := st
        have lI : s1.heap.objs.size ≠ C := Nat.ne_of_lt nC'
        have lD : s1.heap.objs.size ≠ Dd := Nat.ne_of_lt nD'
        have q2' : c.has h₆ its.toArray := (src_begins c its.toArray).keeps s1.heap h₆ hhas fun b o e => s₆.extBut b o (off6 b o e) (k5 b o e)
        exact ⟨src_it q1 fun o e => s₆.extBut _ o lD (s₅.extBut _ o lI e), q2'⟩
    · rw [List.length_map]
      have h1 := uq_len (rs.take i) []
      have h2 : (rs.take i).length ≤ rs.length := by rw [List.length_take]; omega
      have h3 : (uq (rs.take i)).length ≤ 1000000 := by
        show (List.foldl uqPut [] (rs.take i)).length ≤ 1000000
        have : ([] : List KRow).length = 0 := rfl
        omega
      exact Nat.le_trans h3 (by decide)
  · rintro s' ⟨h₄, tk₄, m, rfl, n₄, k₄, d₄⟩
    refine ⟨m, n₄, fun h' hs' => ?_⟩
    have et : rs.take its.toArray.size = rs := by
      have := rvs.length
      rw [List.length_map] at this
      rw [List.size_toArray, ← this, List.take_length]
    rw [et] at d₄
    have hold : ∀ b o, s1.heap.get? b = some o → h'.get? b = some o := fun b o e => hs'.extBut b o (Nat.ne_of_lt (Nat.lt_of_lt_of_le (Heap.lt_size e) (Nat.le_trans (Nat.le_succ _) nC'))) (k₄ b o e)
    have hle : s1.heap.objs.size ≤ Dd := Nat.le_trans (Nat.le_succ _) nD'
    obtain ⟨o, es, ep, ho, hex, hdat, hes, _, _⟩ := d₄
    have ho' : h'.get? Dd = some o := hs'.extBut _ o hDC ho
    have new : ObjOk X.prog X.w (upd H1 Dd (ndO X.w Dd (uq rs))) h' Dd (ndO X.w Dd (uq rs)) := ndO_ok nsys ⟨o, es, ep, ho', hex, hdat, by rw [hes, List.map_map]; rfl⟩
    exact ⟨.ref Dd, upd H1 Dd (ndO X.w Dd (uq rs)), I1.laid (t' := tk₄) hold hle new, rfl, q Dd (I1.hok.fresh hle)⟩
end Dn
set_option Elab.async false
set_option linter.all false
set_option maxRecDepth 100000
namespace Dn
open PySem PySem.Spec PyProof.Rows L2

theorem bt_list : bootBuiltins "list" = some (.type "list") := by decide +kernel
theorem bt_tuple : bootBuiltins "tuple" = some (.type "tuple") := by decide +kernel
theorem bt_int : bootBuiltins "int" = some (.type "int") := by decide +kernel
theorem bt_bool : bootBuiltins "bool" = some (.type "bool") := by decide +kernel
theorem bt_str : bootBuiltins "str" = some (.type "str") := by decide +kernel
theorem bt_dict : bootBuiltins "dict" = some (.type "dict") := by decide +kernel
theorem bt_set : bootBuiltins "set" = some (.type "set") := by decide +kernel
theorem bt_len : bootBuiltins "len" = some (.builtin "len") := by decide +kernel
theorem bt_all : bootBuiltins "all" = some (.builtin "all") := by decide +kernel
theorem bt_any : bootBuiltins "any" = some (.builtin "any") := by decide +kernel
theorem bt_abs : bootBuiltins "abs" = some (.builtin "abs") := by decide +kernel
theorem bt_repr : bootBuiltins "repr" = some (.builtin "repr") := by decide +kernel
theorem bt_sorted : bootBuiltins "sorted" = some (.builtin "sorted") := by decide +kernel
theorem bt_isinstance : bootBuiltins "isinstance" = some (.builtin "isinstance") := by decide +kernel
theorem bt_max : bootBuiltins "max" = some (.builtin "max") := by decide +kernel
theorem bt_min : bootBuiltins "min" = some (.builtin "min") := by decide +kernel

/-! ### list({x: True for x in xs}) -/
def rListN (w : World) : List V → Hp → VK → Prop := fun xs H Q => ∃ (p : Addr) (rs : List KRow), xs = [.ref p] ∧ H p = some (ndO w p rs) ∧ rs.length ≤ sizeLine ∧ ∀ l, H l = none → Q (.ref l) (upd H l (.lst (rs.map fun r => .ref r.2)))
theorem call_listN {X : Cx} (hc : X.calm = true) : CallR X (.type "list") (rListN X.w) := by
  intro pins s σ H xs us Q I r h
  obtain ⟨p, rs, rfl, hp, hz, q⟩ := h
  obtain ⟨u, rfl, rx⟩ := vals1 r
  cases (show u = Value.ref p from rx)
  obtain ⟨⟨hsys, o, es, ep, ho, hex, hd, hes⟩, _, _⟩ := (show ObjOk X.prog X.w H s.heap p (ndO X.w p rs) from I.hok p _ hp)
  have hraw : s.heap.DictRaw p es ep := ⟨o, ho, hex, hd⟩
  have hsz : es.size = rs.length := by rw [← Array.length_toList, hes, List.length_map]
  refine PySem.W.kdl_call (KdlSrc.rawDict (prog := X.prog) (w := X.w) (es := es) (ep := ep) hsys) (I.ok.hd hc) hraw (by omega) fun h' tk acc c' hk hl hacc => ?_
  have hv : acc.toList = rs.map fun r => Value.ref r.2 := by
    obtain ⟨hn, hat⟩ := hacc
    refine List.ext_getElem? fun i => ?_
    by_cases hi : i < es.size
    · have hi2 : i < acc.size := by rw [hn]; exact hi
      have e1 : acc[i]? = some acc[i] := Array.getElem?_eq_getElem hi2
      obtain ⟨hi', ev⟩ := hat i acc[i] e1
      rw [ev] at e1
      have e2 : es[i]? = (rs[i]?).map (ndEntry X.w) := by rw [← Array.getElem?_toList, hes, List.getElem?_map]
      rw [Array.getElem?_eq_getElem hi] at e2
      rw [Array.getElem?_toList, e1, List.getElem?_map]
      cases e3 : rs[i]? with
      | none => rw [e3] at e2; cases e2
      | some r =>
        rw [e3] at e2
        have e4 : es[i] = ndEntry X.w r := Option.some.inj e2
        rw [e4]
        rfl
    · rw [List.getElem?_eq_none (by rw [Array.length_toList]; omega), List.getElem?_eq_none (by rw [List.length_map]; omega)]
  have vals : ∀ rs : List KRow, Vals (rs.map fun r => V.ref r.2) (rs.map fun r => Value.ref r.2) := by
    intro rs
    induction rs with
    | nil => exact .nil
    | cons r rs ih => exact .cons rfl ih
  have new : ObjOk X.prog X.w (upd H s.heap.objs.size (.lst (rs.map fun r => .ref r.2))) h' s.heap.objs.size (.lst (rs.map fun r => .ref r.2)) :=
    ⟨by rw [List.length_map]; exact hz, rs.map fun r => Value.ref r.2, c', vals rs, by rw [hl, ← hv]⟩
  exact ⟨.ref s.heap.objs.size, _, I.laid (t' := tk) hk (Nat.le_refl _) new, rfl, q _ (I.hok.fresh (Nat.le_refl _))⟩
def isTp : D → Bool
  | .tup _ => true
  | _ => false
/-- the rows of tuples that are keys -/
def keyRows (l : List D) : Option (List (NestedKey × D)) := if l.all isTp && lim l.length then (nkAll l).bind fun ks => if ks.all (fun k => decide (k.depth ≤ 8)) then some (ks.zip l) else none else none
section
variable {K : PySem.W.Frag} {G : Hp}
theorem mkRows : ∀ (ds : List D) (vs : List V) (ks : List NestedKey), RpAll K G vs ds → nkAll ds = some ks → ds.all isTp = true →
    ∃ rs : List (NestedKey × (Addr × D)), vs = rs.map (fun r => .ref r.2.1) ∧ ks.zip ds = rs.map (fun r => (r.1, r.2.2)) ∧ rs.length = ds.length ∧ ks = rs.map (·.1) ∧ ∀ r ∈ rs, Rp K G (.ref r.2.1) r.2.2 ∧ NkV K G (.ref r.2.1) r.1
  | [], _, _, r, e, _ => by
    cases r
    unfold nkAll at e
    cases e
    exact ⟨[], rfl, rfl, rfl, rfl, fun r h => nomatch h⟩
  | d :: ds, _, ks, r, e, h => by
    cases r with
    | @cons v vs _ _ r1 r2 =>
    unfold nkAll at e
    cases h1 : nk d with
    | none => rw [h1] at e; cases e
    | some k =>
    rw [h1] at e
    simp only [Option.bind_some] at e
    cases h2 : nkAll ds with
    | none => rw [h2] at e; cases e
    | some ks' =>
    rw [h2] at e
    cases e
    rw [List.all_cons, Bool.and_eq_true] at h
    obtain ⟨rs, e1, e2, e3, e4, e5⟩ := mkRows ds vs ks' r2 h2 h.2
    have nv := nk_v d v k r1 h1
    cases r1 with
    | @tup a xs _ hs ra =>
      refine ⟨(k, (a, _)) :: rs, by rw [e1]; rfl, by rw [List.zip_cons_cons, e2]; rfl, by rw [List.length_cons, e3]; rfl, by rw [e4]; rfl, fun r hr => ?_⟩
      rcases List.mem_cons.mp hr with rfl | hr
      · exact ⟨.tup hs ra, nv⟩
      · exact e5 r hr
    | _ => exact absurd h.1 Bool.false_ne_true
theorem rpAll_map {α : Type} {f : α → V} {g : α → D} : ∀ {l : List α}, (∀ x ∈ l, Rp K G (f x) (g x)) → RpAll K G (l.map f) (l.map g)
  | [], _ => .nil
  | x :: l, h => .cons (h x List.mem_cons_self) (rpAll_map fun y hy => h y (List.mem_cons_of_mem _ hy))
end
/-- the unlike ones, in order -/
def uqD (rs : List (NestedKey × D)) : List D := (uq rs).map (·.2)
def dUniq (f : EDen) : EDen := fun ρ m => (f ρ m).bind fun p => match p.1 with
  | .dat d => (seqV [] (.dat d)).bind fun l => (keyRows l).map fun rs => (.dat (.lst (uqD rs)), p.2)
  | _ => none
theorem de_uniq {X : Cx} {x : Str} {iter : Expr} {scope : Scope} {te : TE} {f : EDen} {kk : Nat} {p pk pt pv' dpos pos : Pos} (hc : X.calm = true) (hu : X.A.units + 70 < cLine) (hgl : Gl X "list") (hm : X.mg "list" = none) (hi : DE X iter te f) (hkind : scope.kind = .function) (hsc : scope.names.all (fun y => y.2 == .local && scope.names.lookup y.1 == some .local) = true) (hlook : scope.names.lookup x = some .local)
    (hd : (x == ("__debug__" : Str)) = false := by decide) (hs : ∀ x, foldedSetIterable iter X.env x = pure x := by intro _; rfl)
    (he : starEach [.DictComp (.Name x pk) (.Constant (.bool true) kk pv') [⟨.Name x pt, iter, [], 0⟩] scope dpos] X.env = (false, eval (.DictComp (.Name x pk) (.Constant (.bool true) kk pv') [⟨.Name x pt, iter, [], 0⟩] scope dpos) X.env) :: starEach [] X.env := by rfl) (hpl : (backTo pos (starEach [] X.env)).any (·.1) = false := by rfl) :
    DE X (.Call (.Name "list" p) [.DictComp (.Name x pk) (.Constant (.bool true) kk pv') [⟨.Name x pt, iter, [], 0⟩] scope dpos] [] pos) (tCB (rListN X.w) (tCons (tNdc X.K X.w te) tNil)) (dUniq f) :=
  ⟨pe_callTy (call_listN hc) hgl hm bt_list (pa_cons (pe_ndc hc hu hi.pe hkind hsc hlook hd hs) pa_nil he) (by decide) (by decide) he hpl, by
    intro σ ρ G F μ m H y m' Q W E h q
    unfold dUniq at h
    cases e1 : f ρ m with
    | none => rw [e1] at h; cases h
    | some pr =>
    obtain ⟨z, m1⟩ := pr
    rw [e1] at h
    simp only [Option.bind_some] at h
    split at h
    · rename_i d
      cases e2 : seqV [] (.dat d) with
      | none => rw [e2] at h; cases h
      | some l =>
      rw [e2] at h
      simp only [Option.bind_some] at h
      unfold keyRows at h
      split at h
      · rename_i hlim
        rw [Bool.and_eq_true] at hlim
        cases e3 : nkAll l with
        | none => rw [e3] at h; cases h
        | some ks =>
        rw [e3] at h
        simp only [Option.bind_some] at h
        split at h
        · rename_i hdep
          simp only [Option.map_some, Option.some.injEq, Prod.mk.injEq] at h
          obtain ⟨rfl, rfl⟩ := h
          refine hi.dn σ ρ G F μ m H (.dat d) m1 _ W E e1 fun v G1 μ1 H1 W1 g1 r1 => ?_
          cases r1 with
          | dat r1 =>
          obtain ⟨c, vs, rfl, hsq, ra⟩ := seqV_src r1 e2
          obtain ⟨rs, e4, e5, e6, e7, e8⟩ := mkRows l vs ks ra e3 hlim.1
          have hlen : rs.length ≤ 1000000 := by rw [e6]; exact of_decide_eq_true hlim.2
          have em : (rs.map fun r => ((r.1, r.2.1) : KRow)) = rs.map fun x => (x.1, Prod.fst x.2) := rfl
          refine ⟨c, rs.map fun r => (r.1, r.2.1), rfl, ?_, ?_, by rw [List.length_map]; exact hlen, fun pd hpd => ?_⟩
          · rw [List.map_map]
            rw [e4] at hsq
            exact sub_sqs W1.g hsq
          · intro r hr
            obtain ⟨r', hr', rfl⟩ := List.mem_map.mp hr
            refine ⟨NkV.up W1.g _ _ (e8 r' hr').2, ?_⟩
            rw [List.all_eq_true] at hdep
            have := hdep r'.1 (by rw [e7]; exact List.mem_map.mpr ⟨r', hr', rfl⟩)
            exact of_decide_eq_true this
          · have eu : uq (rs.map fun r => ((r.1, r.2.1) : KRow)) = (uq rs).map fun r => (r.1, r.2.1) := uq_map Prod.fst rs
            have eu2 : uq (ks.zip l) = (uq rs).map fun r => (r.1, r.2.2) := by rw [e5]; exact uq_map Prod.snd rs
            rw [eu]
            refine ⟨pd, _, rfl, upd_same, ?_, fun l' hl' => ?_⟩
            · rw [List.length_map]
              have h1 := uq_len rs []
              have h2 : (uq rs).length ≤ 1000000 := by
                show (List.foldl uqPut [] rs).length ≤ 1000000
                have : ([] : List (NestedKey × (Addr × D))).length = 0 := rfl
                omega
              exact Nat.le_trans h2 (by decide)
            · rw [List.map_map]
              have hp' : upd H1 pd (ndO X.w pd (List.map (fun r => (r.1, r.2.1)) (uq rs))) l' = none := hl'
              have W2 : Wd X.K G1 F μ1 m1 (upd H1 pd (ndO X.w pd (List.map (fun r => (r.1, r.2.1)) (uq rs)))) := by
                refine ⟨fun a o ha => ?_, fun a o ha => ?_, W1.gf, W1.nd, W1.gm, W1.fm, W1.len, fun i a x h1 h2 => ?_⟩
                · rw [upd_ne (ne_of_none ha (W1.new_g hpd))]; exact W1.g a o ha
                · rw [upd_ne (ne_of_none ha (W1.new_f hpd))]; exact W1.f a o ha
                · have ne : a ≠ pd := fun e => W1.new_mu hpd (e ▸ List.mem_of_getElem? h1)
                  have qq := W1.ob i a x h1 h2
                  cases x with
                  | lst es => obtain ⟨ws, e', r'⟩ := qq; exact ⟨ws, by rw [upd_ne ne]; exact e', r'⟩
                  | gone => obtain ⟨u, e'⟩ := qq; exact ⟨u, by rw [upd_ne ne]; exact e'⟩
              have rl : RpAll X.K G1 ((uq rs).map fun r => V.ref r.2.1) ((uq rs).map fun r => r.2.2) := rpAll_map fun r hr => by
                rcases uq_mem rs [] r hr with z | z
                · cases z
                · exact (e8 r z).1
              have q' := Aft.newL (Aft.of q g1) W2 hp' (ds := uqD (ks.zip l)) (vs := (uq rs).map fun r => V.ref r.2.1) (by
                unfold uqD
                rw [eu2, List.map_map]
                exact rl)
              exact q'
        · cases h
      · cases h
    · cases h⟩

/-! ### sorted -/
def leD (a b : D) : Bool := PySem.W.dataLe false (fun d => (toPy d).getD .none) a b
def isTp1 : PyData → Bool
  | .tuple (_ :: _) => true
  | _ => false
def noTpN : PyData → Bool
  | .none => false
  | .tuple _ => false
  | _ => true
def okSort (ps : List PyData) : Bool := ps.all (fun p => ps.all fun q => PySem.W.alike p q) && (ps.all isTp1 || ps.all noTpN) && ps.all (fun p => decide (p.depth ≤ 60)) && lim ps.length
def sortF : FDen := fun xs m => match xs with
  | [x] => (lstV m x).bind fun l => (toPyAll l).bind fun ps => if okSort ps then some (.dat (.lst (l.mergeSort leD)), m) else none
  | _ => none
theorem okSort_ok {ps : List PyData} (h : okSort ps = true) : PySem.W.AllAlike ps ∧ PySem.W.Sortable ps ∧ (∀ p ∈ ps, p.depth ≤ 60) ∧ ps.length ≤ 1000000 := by
  unfold okSort at h
  simp only [Bool.and_eq_true, Bool.or_eq_true, List.all_eq_true, decide_eq_true_eq] at h
  obtain ⟨⟨⟨h1, h2⟩, h3⟩, h4⟩ := h
  refine ⟨h1, ?_, h3, of_decide_eq_true h4⟩
  rcases h2 with h2 | h2
  · refine .inl fun d hd => ?_
    have := h2 d hd
    unfold isTp1 at this
    split at this
    · exact ⟨_, _, rfl⟩
    · cases this
  · refine .inr fun d hd => ?_
    have := h2 d hd
    unfold noTpN at this
    split at this
    · cases this
    · cases this
    · rename_i hn ht
      exact ⟨hn, ht⟩
def rSortD (K : PySem.W.Frag) : List V → Hp → VK → Prop := fun vs H Q => ∃ (a : Addr) (bs : List (V × PyData)), vs = [.ref a] ∧ SqL K H a (bs.map (·.1)) ∧ (∀ b ∈ bs, Dp K H b.1 b.2) ∧ PySem.W.AllAlike (bs.map (·.2)) ∧ PySem.W.Sortable (bs.map (·.2)) ∧ (∀ b ∈ bs, b.2.depth ≤ 60) ∧
  ∀ p, H p = none → Q (.ref p) (upd H p (.lst ((bs.mergeSort (PySem.W.dataLe false (·.2))).map (·.1))))
section
variable {X : Cx}
theorem call_sortD (hu : X.A.units + 70 < cLine) : CallR X (.builtin "sorted") (rSortD X.K) := by
  intro pins s σ H vs us Q I r h
  obtain ⟨a, bs, rfl, hs, hd, hal, hso, hdp, q⟩ := h
  obtain ⟨its, rv, pl, hz⟩ := I.list hs
  obtain ⟨u, rfl, rx⟩ := vals1 r
  cases (show u = Value.ref a from rx)
  have each : ∀ {bs : List (V × PyData)} {its : List Value}, Vals (bs.map (·.1)) its → PySem.W.EachIs (fun u b => RelV b.1 u) its bs := by
    intro bs
    induction bs with
    | nil => intro its r; cases r; exact .nil
    | cons b bs ih => intro its r; cases r with | cons r1 r2 => exact .cons r1 (ih r2)
  have reads : ∀ {bs : List (V × PyData)} {its : List Value}, Vals (bs.map (·.1)) its → (∀ b ∈ bs, Dp X.K H b.1 b.2) → PySem.W.EachIs (fun u b => ∃ as, Reads s.heap u (Prod.snd b) as) its bs := by
    intro bs
    induction bs with
    | nil => intro its r _; cases r; exact .nil
    | cons b bs ih => intro its r h; cases r with | cons r1 r2 => exact .cons (Dp.reads I _ _ _ (h b List.mem_cons_self) r1) (ih r2 fun c hc => h c (List.mem_cons_of_mem _ hc))
  have hlen : bs.length ≤ sizeLine := by rw [List.length_map] at hz; exact hz
  refine PySem.W.sorted_data (enc := Prod.snd) pl.isList (each rv) (reads rv hd) hal hso hlen (fun b hb => by have := hdp b hb; show X.A.units + 2 + b.2.depth < cLine; omega) fun out ho he => ?_
  obtain ⟨ep, hat⟩ := PyProof.Rows.sortedAll_at s.heap its out.toArray
  have vals : ∀ {bs : List (V × PyData)} {its : List Value}, PySem.W.EachIs (fun u b => RelV (Prod.fst b) u) its bs → Vals (bs.map (·.1)) its := by
    intro bs its e
    induction e with
    | nil => exact .nil
    | cons h _ ih => exact .cons h ih
  have lm : (bs.mergeSort (PySem.W.dataLe false (·.2))).length = bs.length := List.length_mergeSort ..
  have new : ObjOk X.prog X.w (upd H (s.heap.objs.size + 1) (.lst ((bs.mergeSort (PySem.W.dataLe false (·.2))).map (·.1)))) (sortedAll s.heap its out.toArray) (s.heap.objs.size + 1) (.lst ((bs.mergeSort (PySem.W.dataLe false (·.2))).map (·.1))) :=
    ⟨by rw [List.length_map, lm]; exact hlen, out, ep, vals he, hat⟩
  exact ⟨.ref _, _, I.laid (t' := s.toks) (fun _ _ => PyProof.Rows.sortedAll_old) (Nat.le_succ _) new, rfl, q _ (I.hok.fresh (Nat.le_succ _))⟩
theorem toPyAll_zip : ∀ {ds : List D} {ps : List PyData}, toPyAll ds = some ps → ∀ {vs : List V} {K : PySem.W.Frag} {G : Hp}, RpAll K G vs ds → ∃ bs : List (V × (D × PyData)), vs = bs.map (·.1) ∧ ds = bs.map (·.2.1) ∧ ps = bs.map (·.2.2) ∧ ∀ b ∈ bs, Rp K G b.1 b.2.1 ∧ toPy b.2.1 = some b.2.2
  | [], _, e, _, _, _, r => by
    cases r
    unfold toPyAll at e
    cases e
    exact ⟨[], rfl, rfl, rfl, fun _ h => nomatch h⟩
  | d :: ds, ps, e, _, K, G, r => by
    cases r with
    | @cons v vs _ _ r1 r2 =>
    unfold toPyAll at e
    cases h1 : toPy d with
    | none => rw [h1] at e; cases e
    | some p =>
    rw [h1] at e
    simp only [Option.bind_some] at e
    cases h2 : toPyAll ds with
    | none => rw [h2] at e; cases e
    | some ps' =>
    rw [h2] at e
    cases e
    obtain ⟨bs, e1, e2, e3, e4⟩ := toPyAll_zip h2 r2
    refine ⟨(v, (d, p)) :: bs, by rw [e1]; rfl, by rw [e2]; rfl, by rw [e3]; rfl, fun b hb => ?_⟩
    rcases List.mem_cons.mp hb with rfl | hb
    · exact ⟨r1, h1⟩
    · exact e4 b hb
theorem cad_sorted (hu : X.A.units + 70 < cLine) : CalD X (.builtin "sorted") (rSortD X.K) sortF := ⟨call_sortD hu, by
  intro G F μ m H vs xs x m' Q W r e q
  unfold sortF at e
  split at e
  · rename_i y
    cases h1 : lstV m y with
    | none => rw [h1] at e; cases e
    | some l =>
    rw [h1] at e
    simp only [Option.bind_some] at e
    cases h2 : toPyAll l with
    | none => rw [h2] at e; cases e
    | some ps =>
    rw [h2] at e
    simp only [Option.bind_some] at e
    split at e
    · rename_i hok
      cases e
      obtain ⟨v, rfl, rv⟩ := rvAll1 r
      obtain ⟨a, us, rfl, hs, ra⟩ := lstV_ok W rv h1
      obtain ⟨bs, e1, e2, e3, e4⟩ := toPyAll_zip h2 ra
      obtain ⟨k1, k2, k3, k4⟩ := okSort_ok hok
      have m1 : (bs.map fun b => (b.1, b.2.2)).map (·.1) = us := by rw [List.map_map, e1]; rfl
      have m2 : (bs.map fun b => (b.1, b.2.2)).map (·.2) = ps := by rw [List.map_map, e3]; rfl
      refine ⟨a, bs.map fun b => (b.1, b.2.2), rfl, by rw [m1]; exact hs, fun b hb => ?_, by rw [m2]; exact k1, by rw [m2]; exact k2, fun b hb => ?_, fun p hp => ?_⟩
      · obtain ⟨b', hb', rfl⟩ := List.mem_map.mp hb
        exact Dp.up W.g _ _ (toPy_dp _ _ _ (e4 b' hb').1 (e4 b' hb').2)
      · obtain ⟨b', hb', rfl⟩ := List.mem_map.mp hb
        exact k3 _ (by rw [e3]; exact List.mem_map.mpr ⟨b', hb', rfl⟩)
      · have c1 : (bs.map fun b => (b.1, b.2.2)).mergeSort (PySem.W.dataLe false (·.2)) = (bs.mergeSort (PySem.W.dataLe false fun b => b.2.2)).map fun b => (b.1, b.2.2) :=
          (List.map_mergeSort (f := fun b : V × (D × PyData) => (b.1, b.2.2)) fun _ _ _ _ => rfl).symm
        have c2 : l.mergeSort leD = (bs.mergeSort (PySem.W.dataLe false fun b => b.2.2)).map (·.2.1) := by
          rw [e2]
          refine (List.map_mergeSort (f := fun b : V × (D × PyData) => b.2.1) fun b hb c hc => ?_).symm
          show PySem.W.dataLe false (fun b : V × (D × PyData) => b.2.2) b c = PySem.W.dataLe false (fun d => (toPy d).getD .none) b.2.1 c.2.1
          show (!PySem.W.dataLt c.2.2 b.2.2) = (!PySem.W.dataLt ((toPy c.2.1).getD .none) ((toPy b.2.1).getD .none))
          rw [(e4 b hb).2, (e4 c hc).2]
          rfl
        rw [c1, List.map_map]
        rw [c2] at q
        exact q.newL W hp (rpAll_map fun b hb => (e4 b (List.mem_mergeSort.mp hb)).1)
    · cases e
  · cases e⟩
end
end Dn
set_option Elab.async false
set_option linter.all false
set_option maxRecDepth 100000
/-! sets of nested tuples of whole numbers. The argument is that of HandS.TupSets, for another kind of keys. -/
namespace Dn
open PySem PySem.Spec PyProof.Rows L2

/-! ### keys of whole numbers and tuples alone -/
mutual
def inn : NestedKey → Bool
  | .num _ => true
  | .tup ks => innAll ks
  | .none => false
  | .text _ => false
def innAll : List NestedKey → Bool
  | [] => true
  | k :: ks => inn k && innAll ks
end
def IsN (h : Heap) (k : NestedKey) (b : Addr) : Prop := NestedIs h k (.ref b) ∧ k.depth ≤ 8 ∧ inn k = true
abbrev nh (w : World) (k : NestedKey) : Int := k.hash w
section
variable {P : Program} {w : World} {A : Around} {E : Value → Shared → Prop} {s : Shared}
theorem IsN.kd {h : Heap} {k : NestedKey} {b : Addr} (x : IsN h k b) : (nestedKind P w).is h k b := ⟨x.1, x.2.1⟩
theorem ofA_val (n : Nat) {v : Value} (h : ∀ a, v ≠ .ref a) : ofAClassStatement n v = pure false := by
  cases v with
  | ref a => exact absurd rfl (h a)
  | _ => cases n <;> rfl
def StAt (P : Program) (w : World) (n : Nat) (s : Shared) (v : Value) : Prop := ∀ (A : Around) (E : Value → Shared → Prop) (Q : Bool → Shared → Prop), Q false s → wpAny (model P w) A (ofAClassStatement n v) Q E s
def ByAt (P : Program) (w : World) (n : Nat) (s : Shared) (v : Value) : Prop := ∀ (A : Around) (E : Value → Shared → Prop) (Q : Bool → Shared → Prop), Q true s → wpAny (model P w) A (hashByValue n v) Q E s
theorem StAt.tup {n : Nat} {a : Addr} {o : Obj} {vs : Array Value} {m : Nat} (ho : s.heap.get? a = some o) (hc : o.cls = .type "tuple") (hd : o.data = .seq vs m) (hq : ∀ v ∈ vs.toList, StAt P w n s v) : StAt P w (n + 1) s (.ref a) := fun A E Q h => by
  have hT : s.TypeIs (.ref a) "tuple" := ⟨o, ho, hc⟩
  unfold ofAClassStatement
  refine wpAny_bind (wpAny_typeOf hT ?_)
  dsimp only
  have e : (("tuple" : String) == "tuple") = true := by decide
  simp only [e, if_true, Bool.not_true, Bool.false_eq_true, if_false]
  try refine wpAny_bind (wpAny_pure ?_)
  try simp only [Bool.not_true, Bool.false_eq_true, if_false]
  show wpAny _ _ (seqItems? (.ref a) >>= _) _ _ s
  refine wpAny_bind (wpAny_seqItems ho hd ?_)
  dsimp only
  refine wpAny_bind ?_
  show wpAny _ _ (forIn vs _ _) _ _ s
  rw [← Array.forIn_toList]
  refine wpAny_forIn_list _ (fun rest r s' => r.1 = none ∧ s' = s ∧ ∀ v ∈ rest, StAt P w n s v) _ ?_ ?_ _ _ ⟨rfl, rfl, hq⟩
  · rintro v rest r s' ⟨hr, rfl, hall⟩
    refine wpAny_bind (hall v List.mem_cons_self _ _ _ ?_)
    simp only [Bool.false_eq_true, if_false]
    exact wpAny_pure ⟨rfl, rfl, fun u hu' => hall u (List.mem_cons_of_mem _ hu')⟩
  · rintro ⟨r1, r2⟩ s' ⟨hr, rfl, _⟩
    simp only at hr
    subst hr
    exact wpAny_pure h
theorem ByAt.tup {n : Nat} {a : Addr} {o : Obj} {vs : Array Value} {m : Nat} (ho : s.heap.get? a = some o) (hc : o.cls = .type "tuple") (hd : o.data = .seq vs m) (hq : ∀ v ∈ vs.toList, ByAt P w n s v) : ByAt P w (n + 1) s (.ref a) := fun A E Q h => by
  have hT : s.TypeIs (.ref a) "tuple" := ⟨o, ho, hc⟩
  unfold hashByValue
  refine wpAny_bind (wpAny_specialOf hT F.slot_tuple_hash.lookup ?_)
  show wpAny _ _ (seqItems? (.ref a) >>= _) _ _ s
  refine wpAny_bind (wpAny_seqItems ho hd ?_)
  refine wpAny_bind ?_
  show wpAny _ _ (forIn vs _ _) _ _ s
  rw [← Array.forIn_toList]
  refine wpAny_forIn_list _ (fun rest r s' => r.1 = none ∧ s' = s ∧ ∀ v ∈ rest, ByAt P w n s v) _ ?_ ?_ _ _ ⟨rfl, rfl, hq⟩
  · rintro v rest r s' ⟨hr, rfl, hall⟩
    refine wpAny_bind (hall v List.mem_cons_self _ _ _ ?_)
    simp only [Bool.not_true, Bool.false_eq_true, if_false]
    exact wpAny_pure ⟨rfl, rfl, fun u hu' => hall u (List.mem_cons_of_mem _ hu')⟩
  · rintro ⟨r1, r2⟩ s' ⟨hr, rfl, _⟩
    simp only at hr
    subst hr
    exact wpAny_pure h
mutual
theorem st_key : ∀ (k : NestedKey) (v : Value) (n : Nat) (s : Shared), NestedIs s.heap k v → k.depth ≤ n → StAt P w n s v
  | .none, _, n, s, x, _ => by cases x; exact fun A E Q h => by rw [ofA_val n (fun a e => by cases e)]; exact wpAny_pure h
  | .num i, _, n, s, x, _ => by cases x <;> exact fun A E Q h => by rw [ofA_val n (fun a e => by cases e)]; exact wpAny_pure h
  | .text y, _, n, s, x, _ => by cases x; exact fun A E Q h => by rw [ofA_val n (fun a e => by cases e)]; exact wpAny_pure h
  | .tup ks, _, n, s, x, hn => by
    cases x with
    | tup hg hc hd hk =>
      simp only [NestedKey.depth] at hn
      cases n with
      | zero => omega
      | succ n => exact StAt.tup hg hc hd (st_keys ks _ n s hk (by omega))
theorem st_keys : ∀ (ks : List NestedKey) (vs : List Value) (n : Nat) (s : Shared), NestedAll s.heap ks vs → NestedKey.depthAll ks ≤ n → ∀ v ∈ vs, StAt P w n s v
  | [], _, n, s, x, _, v, hv => by cases x; cases hv
  | k :: ks, _, n, s, x, hn, v, hv => by
    cases x with
    | cons x1 x2 =>
      simp only [NestedKey.depthAll] at hn
      rcases List.mem_cons.mp hv with e | hv
      · rw [e]; exact st_key k _ n s x1 (by omega)
      · exact st_keys ks _ n s x2 (by omega) v hv
end
theorem ByAt.val {n : Nat} {v : Value} (h : hashByValue n v = pure true) : ByAt P w n s v := fun A E Q q => by rw [h]; exact wpAny_pure q
mutual
theorem hv_key : ∀ (k : NestedKey) (v : Value) (n : Nat) (s : Shared), NestedIs s.heap k v → inn k = true → k.depth ≤ n → ByAt P w n s v
  | .none, _, n, s, x, e, _ => by cases e
  | .text y, _, n, s, x, e, _ => by cases e
  | .num i, _, n, s, x, _, _ => by
    cases x with
    | int _ t => exact ByAt.val (by cases n <;> rfl)
    | bool _ => exact ByAt.val (by cases n <;> rfl)
  | .tup ks, _, n, s, x, e, hn => by
    cases x with
    | tup hg hc hd hk =>
      simp only [NestedKey.depth] at hn
      cases n with
      | zero => omega
      | succ n => exact ByAt.tup hg hc hd (hv_keys ks _ n s hk e (by omega))
theorem hv_keys : ∀ (ks : List NestedKey) (vs : List Value) (n : Nat) (s : Shared), NestedAll s.heap ks vs → innAll ks = true → NestedKey.depthAll ks ≤ n → ∀ v ∈ vs, ByAt P w n s v
  | [], _, n, s, x, _, _, v, hv => by cases x; cases hv
  | k :: ks, _, n, s, x, e, hn, v, hv => by
    cases x with
    | cons x1 x2 =>
      unfold innAll at e
      rw [Bool.and_eq_true] at e
      simp only [NestedKey.depthAll] at hn
      rcases List.mem_cons.mp hv with z | hv
      · rw [z]; exact hv_key k _ n s x1 e.1 (by omega)
      · exact hv_keys ks _ n s x2 e.2 (by omega) v hv
end
theorem hashBy_n {k : NestedKey} {b : Addr} {Q : Bool → Shared → Prop} (hk : IsN s.heap k b) (h : Q true s) : wpAny (model P w) A (hashByValue 8 (.ref b)) Q E s := hv_key k _ 8 s hk.1 hk.2.2 hk.2.1 A E Q h
/-- a search among such keys shows nothing -/
theorem seen_n {k : NestedKey} {b : Addr} {Q : Bool → Shared → Prop} (hk : IsN s.heap k b) {ys : List Value} (hy : ∀ y ∈ ys, ∃ k' c, y = Value.ref c ∧ IsN s.heap k' c) (h : Q false s) :
    wpAny (model P w) A (searchCouldBeSeen (.ref b) ys) Q E s := by
  unfold searchCouldBeSeen
  refine wpAny_bind ?_
  refine wpAny_forIn_list _ (fun rest r s' => r.1 = none ∧ s' = s ∧ ∀ y ∈ rest, ∃ k' c, y = Value.ref c ∧ IsN s.heap k' c) _ ?_ ?_ _ _ ⟨rfl, rfl, hy⟩
  · rintro v rest r s' ⟨hr, rfl, hall⟩
    obtain ⟨k', c, rfl, hc⟩ := hall v List.mem_cons_self
    have rest' : ∀ y ∈ rest, ∃ k' c, y = Value.ref c ∧ IsN s'.heap k' c := fun u hu' => hall u (List.mem_cons_of_mem _ hu')
    dsimp only
    by_cases hv : (b == c || (carriedByValue (.ref b) && carriedByValue (.ref c))) = true
    · refine wp_if_pos hv ?_
      exact wpAny_pure ⟨rfl, rfl, rest'⟩
    · refine wp_if_neg hv ?_
      refine wpAny_bind ((nestedKind P w).quiet hk.kd ?_)
      simp only [Bool.not_true, Bool.false_eq_true, if_false]
      refine wpAny_bind ((nestedKind P w).quiet hc.kd ?_)
      simp only [Bool.not_true, Bool.false_eq_true, if_false]
      refine wpAny_bind (st_key k _ 8 s' hk.1 hk.2.1 _ _ _ ?_)
      simp only [Bool.false_eq_true, if_false]
      refine wpAny_bind (st_key k' _ 8 s' hc.1 hc.2.1 _ _ _ ?_)
      simp only [Bool.false_eq_true, if_false]
      exact wpAny_pure ⟨rfl, rfl, rest'⟩
  · rintro ⟨r1, r2⟩ s' ⟨hr, rfl, _⟩
    simp only at hr
    subst hr
    exact wpAny_pure h

/-! ### the set -/

def rowsN (w : World) (L : List (Addr × NestedKey)) : List (Int × Value) := L.map fun p => (nh w p.2, Value.ref p.1)
structure SetNR (w : World) (h : Heap) (a : Addr) (L : List (Addr × NestedKey)) (es : Array (Int × Value)) (ep : Nat) (t : SetTable) : Prop where
  ob : ∃ o, h.get? a = some o ∧ o.ExactSet ∧ o.data = .set es ep t
  rows : es.toList = rowsN w L
  tab : TabOk t (L.map fun p => nh w p.2)
  nd : (L.map (·.2)).Nodup
  tup : ∀ p ∈ L, IsN h p.2 p.1
  plain : t.plain = true
  led : w.params.followText "set-order" = true ∨ t.led = true
  room : L.length * 5 < t.mask * 3
  few : L.length < 64
variable {a : Addr} {L : List (Addr × NestedKey)} {es : Array (Int × Value)} {ep : Nat} {t : SetTable}
theorem SetNR.size (R : SetNR w s.heap a L es ep t) : es.size = L.length := by
  have h := congrArg List.length R.rows
  unfold rowsN at h
  rw [Array.length_toList, List.length_map] at h
  exact h
theorem SetNR.fits (R : SetNR w s.heap a L es ep t) : t.fits es.size = true := by
  have h1 := R.tab.sz
  rw [List.length_map] at h1
  have h2 := R.size
  have h3 := R.room
  unfold SetTable.fits SetTable.fill
  rw [R.tab.dm, Bool.and_eq_true, beq_iff_eq, decide_eq_true_eq]
  show t.place.size = es.size ∧ t.place.size + 0 ≤ t.mask
  omega
theorem SetNR.entry (R : SetNR w s.heap a L es ep t) {i : Nat} {p : Addr × NestedKey} (h : L[i]? = some p) : es[i]? = some (nh w p.2, Value.ref p.1) := by
  rw [← Array.getElem?_toList, R.rows]
  unfold rowsN
  rw [List.getElem?_map, h] <;> rfl
theorem SetNR.gw (R : SetNR w s.heap a L es ep t) : ¬ t.gaveWay = true := by
  unfold SetTable.gaveWay
  rw [mask_odd R.tab.mok]
  decide
theorem sameMem (t : SetTable) : t.sameMemory t.moves t.mask = some true := by
  unfold SetTable.sameMemory
  rw [if_pos (beq_self_eq_true _)]

/-- THE SEARCH: from the c-th step of the way on -/
theorem search_from (R : SetNR w s.heap a L es ep t) {x : Addr} {k : NestedKey} (hx : IsN s.heap k x) (hu : A.units + 8 < cLine) {K : Nat} (hKf : K < 10 * SetTable.turns t.mask)
    (hK : way t.mask (nh w k) K ∉ t.place.toList) (hKb : ∀ c, c < K → way t.mask (nh w k) c ∈ t.place.toList) {Q : SetFound → Shared → Prop}
    (hin : k ∈ L.map (·.2) → Q (.there none) s) (hout : k ∉ L.map (·.2) → Q (.free (way t.mask (nh w k) K) false) s) :
    ∀ (f c : Nat) (stand : Option SetTable.Probe), stand.getD (t.probeStart (nh w k)) = nth t.mask (runAt t.mask (SetTable.bits (nh w k) % (t.mask + 1)) (SetTable.bits (nh w k))) c → c ≤ K → K - c < f →
      (∀ (i : Nat) p, L[i]? = some p → p.2 = k → ∃ c', c ≤ c' ∧ c' < K ∧ t.place.toList[i]? = some (way t.mask (nh w k) c')) →
      wpAny (model P w) A (setSearchFrom a (.ref x) (nh w k) true f stand) Q E s
  | 0, c, stand, _, _, hf, _ => absurd hf (Nat.not_lt_zero _)
  | f + 1, c, stand, hst, hc, hf, hre => by
    obtain ⟨o, ho, hex, hd⟩ := R.ob
    rw [setSearchFrom_succ]
    refine wpAny_bind (wpAny_setState_of ho hd R.fits ?_)
    dsimp only
    refine wp_if_neg R.gw ?_
    try refine wpAny_bind (wpAny_pure ?_)
    have hnd : (nth t.mask (runAt t.mask (SetTable.bits (nh w k) % (t.mask + 1)) (SetTable.bits (nh w k))) c).dummy = none := by
      have key : ∀ (n : Nat) (p : SetTable.Probe), p.dummy = none → (nth t.mask p n).dummy = none := by
        intro n
        induction n with
        | zero => intro p h; exact h
        | succ n ih =>
          intro p h
          refine ih (adv t.mask p) ?_
          unfold adv
          split <;> exact h
      exact key c _ rfl
    have sh : ∀ q, nth t.mask (nth t.mask (runAt t.mask (SetTable.bits (nh w k) % (t.mask + 1)) (SetTable.bits (nh w k))) c) q = nth t.mask (runAt t.mask (SetTable.bits (nh w k) % (t.mask + 1)) (SetTable.bits (nh w k))) (c + q) := fun q => (nth_add t.mask c _ q).symm
    have e1 : ∀ q, (nth t.mask (nth t.mask (runAt t.mask (SetTable.bits (nh w k) % (t.mask + 1)) (SetTable.bits (nh w k))) c) q).j = way t.mask (nh w k) (c + q) := fun q => congrArg SetTable.Probe.j (sh q)
    have spec := go_spec t R.tab.ris R.tab.dm (fun i => (es[i]?.map (·.1)).getD 0) (nh w k) (10 * SetTable.turns t.mask) (K - c) _ hnd (by omega)
      (fun q hq => by rw [e1]; exact hKb (c + q) (by omega)) (by rw [e1, show c + (K - c) = K by omega]; exact hK)
    have hashAt : ∀ (i : Nat) p, L[i]? = some p → (fun i => (es[i]?.map (·.1)).getD 0) i = nh w p.2 := fun i p hp => by
      show (es[i]?.map (·.1)).getD 0 = _
      rw [R.entry hp] <;> rfl
    rcases spec with ⟨q, i, hq, hi, hh, hno, hpr⟩ | ⟨hno, hpr⟩
    · -- a candidate
      have hpr' : t.probe (fun i => (es[i]?.map (·.1)).getD 0) (nh w k) (stand.getD (t.probeStart (nh w k))) = some (.candidate (way t.mask (nh w k) (c + q)) i (nth t.mask (runAt t.mask (SetTable.bits (nh w k) % (t.mask + 1)) (SetTable.bits (nh w k))) (c + (q + 1)))) := by
        rw [hst, ← e1, ← sh]
        exact hpr
      rw [hpr']
      dsimp only
      rw [e1] at hi
      -- the entry
      have hil : i < L.length := by
        have h1 : i < t.place.toList.length := (List.getElem?_eq_some_iff.mp hi).1
        have h2 := R.tab.sz
        rw [List.length_map] at h2
        rw [Array.length_toList] at h1
        omega
      have hp : L[i]? = some L[i] := List.getElem?_eq_getElem hil
      generalize hpe : L[i] = p at hp
      have hmem : p ∈ L := List.mem_of_getElem? hp
      have hpt := R.tup p hmem
      have rest : wpAny (model P w) A (searchRest a (.ref x) (nh w k) true f es t (way t.mask (nh w k) (c + q)) i (nth t.mask (runAt t.mask (SetTable.bits (nh w k) % (t.mask + 1)) (SetTable.bits (nh w k))) (c + (q + 1)))) Q E s := by
        unfold searchRest
        rw [R.entry hp]
        dsimp only
        refine wpAny_bind (wpAny_holding ((nestedKind P w).eqBool hu hpt.kd hx.kd ?_))
        refine wpAny_bind (wpAny_setState_of ho hd R.fits ?_)
        dsimp only
        by_cases hkk : p.2 = k
        · refine wp_if_pos (by simp [hkk]) ?_
          refine wpAny_pure (hin ?_)
          exact List.mem_map.mpr ⟨p, hmem, hkk⟩
        · refine wp_if_neg (by simp [hkk]) ?_
          try refine wpAny_bind (wpAny_pure ?_)
          rw [sameMem]
          dsimp only
          have hsl : t.slot (way t.mask (nh w k) (c + q)) = .live i := slot_live R.tab.ris hi
          simp only [if_true, hsl, R.entry hp]
          refine wpAny_bind (wpAny_isSame_ref_self (wpAny_bind (wpAny_pure ?_)))
          simp only [if_true]
          refine wp_if_neg (by simp [hkk]) ?_
          refine search_from R hx hu hKf hK hKb hin hout f (c + (q + 1)) _ rfl (by omega) (by omega) fun i0 p0 h0 hk0 => ?_
          obtain ⟨c', a1, a2, a3⟩ := hre i0 p0 h0 hk0
          refine ⟨c', ?_, a2, a3⟩
          -- it isn't passed
          rcases Nat.lt_or_ge c' (c + q) with z | z
          · exfalso
            refine hno (c' - c) i0 (by omega) (by rw [e1, show c + (c' - c) = c' by omega]; exact a3) ?_
            exact (hashAt i0 p0 h0).trans (congrArg (nh w) hk0)
          · rcases Nat.lt_or_ge (c + q) c' with y | y
            · omega
            · exfalso
              have ec : c' = c + q := Nat.le_antisymm y z
              rw [ec] at a3
              have s0 := slot_live R.tab.ris a3
              rw [hsl] at s0
              injection s0 with s0
              rw [← s0, hp] at h0
              exact hkk ((congrArg Prod.snd (Option.some.inj h0)).trans hk0)
      by_cases hl : t.led = true
      · refine wp_if_neg (by simp [hl]) ?_
        try refine wpAny_bind (wpAny_pure ?_)
        exact rest
      · refine wp_if_pos (by simp [hl]) ?_
        refine wpAny_bind (seen_n hx (fun y hy => ?_) ?_)
        · obtain ⟨e, he, ee⟩ := List.mem_map.mp hy
          have he1 : e ∈ es ∧ e.1 = nh w k := by simpa using he
          have he2 : e ∈ es.toList := by simpa using he1.1
          rw [R.rows] at he2
          obtain ⟨p2, hp2, e2⟩ := List.mem_map.mp he2
          refine ⟨p2.2, p2.1, ?_, R.tup p2 hp2⟩
          rw [← ee, ← e2]
        · refine wp_if_neg (by decide) ?_
          try refine wpAny_bind (wpAny_pure ?_)
          exact rest
    · -- the empty slot
      have hpr' : t.probe (fun i => (es[i]?.map (·.1)).getD 0) (nh w k) (stand.getD (t.probeStart (nh w k))) = some (.empty (way t.mask (nh w k) K) none) := by
        have e2 : way t.mask (nh w k) K = (nth t.mask (nth t.mask (runAt t.mask (SetTable.bits (nh w k) % (t.mask + 1)) (SetTable.bits (nh w k))) c) (K - c)).j := by
          rw [e1, show c + (K - c) = K by omega]
        rw [hst, e2]
        exact hpr
      rw [hpr']
      dsimp only
      refine wpAny_pure (hout fun hm => ?_)
      obtain ⟨p0, h0, hk0⟩ := List.mem_map.mp hm
      obtain ⟨i0, hi0, e0⟩ := List.getElem_of_mem h0
      have h00 : L[i0]? = some p0 := by rw [List.getElem?_eq_getElem hi0, e0]
      obtain ⟨c', a1, a2, a3⟩ := hre i0 p0 h00 hk0
      refine hno (c' - c) i0 (by omega) (by rw [e1, show c + (c' - c) = c' by omega]; exact a3) ?_
      exact (hashAt i0 p0 h00).trans (congrArg (nh w) hk0)

/-- the search as adding asks for it -/
theorem search_at (R : SetNR w s.heap a L es ep t) {x : Addr} {k : NestedKey} (hx : IsN s.heap k x) (hu : A.units + 8 < cLine) {Q : SetFound → Shared → Prop}
    (hin : k ∈ L.map (·.2) → Q (.there none) s)
    (hout : ∀ K, k ∉ L.map (·.2) → way t.mask (nh w k) K ∉ t.place.toList → (∀ c, c < K → way t.mask (nh w k) c ∈ t.place.toList) → Q (.free (way t.mask (nh w k) K) false) s) :
    wpAny (model P w) A (setSearch a (.ref x) (nh w k) true) Q E s := by
  have hroom := R.room
  obtain ⟨K, hKf, hK, hKb⟩ := R.tab.first (by rw [List.length_map]; omega) (nh w k)
  have hbig : K < 100000 := by
    have : 10 * SetTable.turns t.mask ≤ 1420 := by
      unfold SetTable.turns
      rcases R.tab.mok with e | e | e <;> omega
    omega
  unfold setSearch
  refine search_from R hx hu hKf hK hKb hin (fun hn => hout K hn hK hKb) 100000 0 none rfl (Nat.zero_le _) (by omega) fun i p hp hk => ?_
  have hi : (L.map fun p => nh w p.2)[i]? = some (nh w k) := by rw [List.getElem?_map, hp, ← hk] <;> rfl
  have hil : i < t.place.toList.length := by
    have h1 : i < L.length := (List.getElem?_eq_some_iff.mp hp).1
    have h2 := R.tab.sz
    rw [List.length_map] at h2
    rw [Array.length_toList]
    omega
  have hj := List.getElem?_eq_getElem hil
  obtain ⟨c, hc, e⟩ := R.tab.before hK hi hj
  exact ⟨c, Nat.zero_le _, hc, by rw [hj, e]⟩
/-- a tuple isn't the set -/
theorem isN_same {h h' : Heap} {k : NestedKey} {a b : Addr} {o : Obj} {es : Array (Int × Value)} {ep : Nat} {t : SetTable} (hb : IsN h k b) (ho : h.get? a = some o) (hd : o.data = .set es ep t) (hs : Heap.SameBut a h h') : IsN h' k b :=
  ⟨NestedIs.at (fun c u vs n e q => by
    refine (hs.2 c fun z => ?_).trans e
    subst z
    rw [ho] at e
    cases e
    rw [hd] at q
    cases q) _ _ hb.1, hb.2⟩
theorem rows_put (L : List (Addr × NestedKey)) (p : Nat) (x : Addr) (k : NestedKey) : rowsN w (L.take p ++ (x, k) :: L.drop p) = (rowsN w L).take p ++ (nh w k, Value.ref x) :: (rowsN w L).drop p := by
  unfold rowsN
  rw [List.map_append, List.map_cons, List.map_take, List.map_drop]
theorem put_perm {α : Type} (L : List α) (p : Nat) (x : α) : (L.take p ++ x :: L.drop p).Perm (x :: L) := by
  have h : (L.take p ++ x :: L.drop p).Perm (x :: (L.take p ++ L.drop p)) := List.perm_middle
  rw [List.take_append_drop] at h
  exact h
theorem order_rows (L : List (Addr × NestedKey)) (es : Array (Int × Value)) (order : Array Nat) (hr : es.toList = rowsN w L) (hp : order.toList.Perm (List.range L.length)) :
    ∃ L2, (order.filterMap (es[·]?)).toList = rowsN w L2 ∧ L2.Perm L ∧ (L2.map fun p => nh w p.2) = order.toList.map fun i => (es.map (·.1)).getD i 0 := by
  have hsz : es.size = L.length := by
    have h := congrArg List.length hr
    unfold rowsN at h
    rw [Array.length_toList, List.length_map] at h
    exact h
  have ent : ∀ i (h : i < L.length), es[i]? = some (nh w (L[i]).2, Value.ref (L[i]).1) := fun i h => by
    rw [← Array.getElem?_toList, hr]
    unfold rowsN
    rw [List.getElem?_map, List.getElem?_eq_getElem h] <;> rfl
  have key : ∀ l : List Nat, (∀ i ∈ l, i < L.length) → ∃ L2 : List (Addr × NestedKey), l.filterMap (fun i => es[i]?) = rowsN w L2 ∧ L2 = l.filterMap (fun i => L[i]?) ∧ (L2.map fun p => nh w p.2) = l.map fun i => (es.map (·.1)).getD i 0 := by
    intro l
    induction l with
    | nil => intro _; exact ⟨[], rfl, rfl, rfl⟩
    | cons i l ih =>
      intro hl
      have hi := hl i List.mem_cons_self
      obtain ⟨L2, e1, e2, e3⟩ := ih fun j hj => hl j (List.mem_cons_of_mem _ hj)
      refine ⟨L[i] :: L2, ?_, ?_, ?_⟩
      · rw [List.filterMap_cons_some (ent i hi), e1] <;> rfl
      · rw [List.filterMap_cons_some (List.getElem?_eq_getElem hi), e2]
      · rw [List.map_cons, List.map_cons, e3]
        have hi2 : i < (es.map (·.1)).size := by rw [Array.size_map, hsz]; exact hi
        have e4 : (es.map (·.1)).getD i 0 = nh w (L[i]).2 := by
          have e5 : (es.map (·.1))[i]? = some (nh w (L[i]).2) := by rw [Array.getElem?_map, ent i hi] <;> rfl
          simp [Array.getD_eq_getD_getElem?, e5]
        rw [e4]
  obtain ⟨L2, e1, e2, e3⟩ := key order.toList fun i hi => List.mem_range.mp (hp.mem_iff.mp hi)
  refine ⟨L2, by first | (rw [Array.toList_filterMap]; exact e1) | simpa using e1, ?_, e3⟩
  have h1 : L2.Perm ((List.range L.length).filterMap fun i => L[i]?) := by
    rw [e2]
    exact hp.filterMap _
  have h2 : (List.range L.length).filterMap (fun i => L[i]?) = L := by
    have key2 : ∀ n, n ≤ L.length → (List.range n).filterMap (fun i => L[i]?) = L.take n := by
      intro n
      induction n with
      | zero => intro _; rfl
      | succ n ih =>
        intro hn
        have hlt : n < L.length := hn
        rw [List.range_succ, List.filterMap_append, ih (Nat.le_of_lt hlt), List.take_succ, List.getElem?_eq_getElem hlt]
        rw [List.filterMap_cons_some (List.getElem?_eq_getElem hlt)] <;> rfl
    rw [key2 L.length (Nat.le_refl _), List.take_length]
  rw [h2] at h1
  exact h1

/-- the table laid anew, larger -/
theorem relay_at {o : Obj} (ho : s.heap.get? a = some o) (hex : o.ExactSet) (hd : o.data = .set es ep t) (hrows : es.toList = rowsN w L) (hsz : t.place.size = es.size) (hdm : t.dummies = #[]) (hfl : es.size ≤ t.mask)
    (nd : (L.map (·.2)).Nodup) (tup : ∀ p ∈ L, IsN s.heap p.2 p.1) (pl : t.plain = true) (ld : w.params.followText "set-order" = true ∨ t.led = true) (few : L.length < 64) {wanted M : Nat}
    (hw : SetTable.sizeAbove wanted - 1 = M) (hM : MaskOk M) (hw2 : SetTable.sizeAbove wanted ≤ 128) (hn : L.length * 5 < M * 3) {Q : Unit → Shared → Prop}
    (hQ : ∀ h' L' es' ep' t', Heap.SameBut a s.heap h' → SetNR w h' a L' es' ep' t' → L'.Perm L → Q () { s with heap := h' }) : wpAny (model P w) A (setRelay a wanted) Q E s := by
  have hsl : es.size = L.length := by
    have h := congrArg List.length hrows
    unfold rowsN at h
    rw [Array.length_toList, List.length_map] at h
    exact h
  have hfits : t.fits es.size = true := by
    unfold SetTable.fits SetTable.fill
    rw [hdm, Bool.and_eq_true, beq_iff_eq, decide_eq_true_eq]
    show t.place.size = es.size ∧ t.place.size + 0 ≤ t.mask
    omega
  obtain ⟨t', order, e, hp, T, em, el, ep', ed⟩ := relaid_ok t (hs := es.map (·.1)) (wanted := wanted) hw hM (by rw [Array.size_map, hsl]; omega)
  rw [Array.size_map, hsl] at hp
  obtain ⟨L2, r1, r2, r3⟩ := order_rows L es order hrows hp
  rw [← r3] at T
  have hs2 : (order.filterMap (es[·]?)).size = es.size := by
    have h := congrArg List.length r1
    unfold rowsN at h
    rw [Array.length_toList, List.length_map, r2.length_eq] at h
    rw [h, hsl]
  rw [setRelay_eq]
  refine wpAny_bind (wpAny_setState_of ho hd hfits ?_)
  dsimp only
  refine wp_if_neg (by rw [sizeLine_eq]; omega) ?_
  try refine wpAny_bind (wpAny_pure ?_)
  rw [e]
  dsimp only
  refine wpAny_bind ?_
  refine wp_if_neg (by rw [hs2]; simp) ?_
  try refine wpAny_bind (wpAny_pure ?_)
  refine wpAny_pure ?_
  dsimp only
  refine wpAny_storeSet_of ho hd ?_ (by rw [hs2, hsl, sizeLine_eq]; omega)
  have sb : Heap.SameBut a s.heap (s.heap.update a (Obj.putSet (order.filterMap (es[·]?)) t')) := Heap.SameBut.update ..
  refine hQ _ L2 (order.filterMap (es[·]?)) (ep + 1) t' sb ?_ r2
  refine ⟨⟨_, store_at ho hd, ⟨hex.1, hex.2.1, hex.2.2⟩, rfl⟩, r1, T, ?_, fun p hpm => isN_same (tup p (r2.mem_iff.mp hpm)) ho hd sb, by rw [ep']; exact pl, by rw [el]; exact ld, ?_, by rw [r2.length_eq]; exact few⟩
  · exact (r2.map (·.2)).nodup_iff.mpr nd
  · rw [r2.length_eq, em]
    exact hn

/-- ADDING -/
theorem add_at (R : SetNR w s.heap a L es ep t) {x : Addr} {k : NestedKey} (hx : IsN s.heap k x) (hu : A.units + 8 < cLine) (hfew : L.length + 1 < 64) {Q : Bool → Shared → Prop}
    (hQ : ∀ b h' L' es' ep' t', Heap.SameBut a s.heap h' → SetNR w h' a L' es' ep' t' → (k ∈ L.map (·.2) → L' = L) → (k ∉ L.map (·.2) → L'.Perm ((x, k) :: L)) → Q b { s with heap := h' }) :
    wpAny (model P w) A (setAddHashed a (.ref x) (nh w k)) Q E s := by
  obtain ⟨o, ho, hex, hd⟩ := R.ob
  have hsl := R.size
  have hroom := R.room
  unfold setAddHashed
  refine wpAny_holding ?_
  rw [show (100000 : Nat) = 99999 + 1 from rfl, setAddHashedIn_succ]
  refine wpAny_bind (wpAny_setState_of ho hd R.fits ?_)
  dsimp only
  refine wp_if_neg (by simp [byScan, Value.scannable]) ?_
  try refine wpAny_bind (wpAny_pure ?_)
  refine wpAny_bind (search_at R hx hu (fun hm => ?_) fun K hm hK hb => ?_)
  · dsimp only
    exact wpAny_pure (hQ false s.heap L es ep t (Heap.SameBut.refl a s.heap) R (fun _ => rfl) fun z => absurd hm z)
  · dsimp only
    refine wpAny_bind (wpAny_setState_of ho hd R.fits ?_)
    dsimp only
    obtain ⟨q1, q2, q3, q4, q5, q6, q7, q8, q9⟩ := R.tab.put hK hb
    have hp1 : (t.put (way t.mask (nh w k) K)).1.plain = true := by rw [q6]; exact R.plain
    generalize hpt : t.put (way t.mask (nh w k) K) = pt at q1 q3 q4 q5 q6 q7 q8 q9 hp1 ⊢
    obtain ⟨t1, p⟩ := pt
    dsimp only at q1 q3 q4 q5 q6 q7 q8 q9 hp1 ⊢
    subst q1
    first
      | (refine wpAny_bind ?_; refine wp_if_pos hp1 ?_; refine hashBy_n hx ?_)
      | refine wp_if_pos hp1 (wpAny_bind (hashBy_n hx ?_))
    simp only [if_true]
    have hin : (SetTable.insertAt es (SetTable.below t.place (way t.mask (nh w k) K)) (nh w k, Value.ref x)).toList = rowsN w (L.take (SetTable.below t.place (way t.mask (nh w k) K)) ++ (x, k) :: L.drop (SetTable.below t.place (way t.mask (nh w k) K))) := by
      rw [SetTable.toList_insertAt, rows_put, R.rows]
    generalize hpp : SetTable.below t.place (way t.mask (nh w k) K) = p at q2 q3 hin ⊢
    have pm := put_perm L p (x, k)
    have hlen : (L.take p ++ (x, k) :: L.drop p).length = L.length + 1 := pm.length_eq
    have hhs : (L.take p ++ (x, k) :: L.drop p).map (fun p => nh w p.2) = (L.map fun p => nh w p.2).take p ++ nh w k :: (L.map fun p => nh w p.2).drop p := by
      rw [List.map_append, List.map_cons, List.map_take, List.map_drop]
    rw [← hhs] at q3
    have nd1 : ((L.take p ++ (x, k) :: L.drop p).map (·.2)).Nodup := by
      refine (pm.map (·.2)).nodup_iff.mpr ?_
      rw [List.map_cons]
      exact List.nodup_cons.mpr ⟨hm, R.nd⟩
    have hes : (SetTable.insertAt es p (nh w k, Value.ref x)).size = L.length + 1 := by
      have h := congrArg List.length hin
      unfold rowsN at h
      rw [Array.length_toList, List.length_map, hlen] at h
      exact h
    generalize SetTable.insertAt es p (nh w k, Value.ref x) = es1 at hin hes ⊢
    generalize L.take p ++ (x, k) :: L.drop p = L1 at pm hlen q3 nd1 hin
    refine wpAny_bind (wpAny_storeSet_of ho hd ?_ (by rw [hes, sizeLine_eq]; omega))
    have sb : Heap.SameBut a s.heap (s.heap.update a (Obj.putSet es1 t1)) := Heap.SameBut.update ..
    have ho1 := store_at (es' := es1) (t' := t1) ho hd
    generalize s.heap.update a (Obj.putSet es1 t1) = h1 at sb ho1 ⊢
    have tup1 : ∀ p ∈ L1, IsN h1 p.2 p.1 := fun p hp => by
      rcases List.mem_cons.mp (pm.mem_iff.mp hp) with e | hp
      · rw [e]; exact isN_same hx ho hd sb
      · exact isN_same (R.tup p hp) ho hd sb
    have ld1 : w.params.followText "set-order" = true ∨ t1.led = true := by rw [q5]; exact R.led
    by_cases hf : t1.tooFull = true
    · first
        | (refine wpAny_bind ?_; refine wp_if_pos (by simp [hf]) ?_)
        | (refine wp_if_pos (by simp [hf]) ?_; refine wpAny_bind ?_)
      have hfull : (L.length + 1) * 5 ≥ t1.mask * 3 := by
        have h := hf
        unfold SetTable.tooFull at h
        rw [decide_eq_true_eq, q9, List.length_map] at h
        exact h
      rw [hsl]
      have hsz1 : t1.place.size = es1.size := by
        have h := q3.sz
        rw [List.length_map, hlen] at h
        rw [h, hes]
      have cases2 : (t.mask = 7 ∧ L.length = 4) ∨ (t.mask = 31 ∧ L.length = 18) := by
        rcases R.tab.mok with e | e | e
        · left; rw [q4, e] at hfull; rw [e] at hroom; exact ⟨e, by omega⟩
        · right; rw [q4, e] at hfull; rw [e] at hroom; exact ⟨e, by omega⟩
        · exfalso; rw [q4, e] at hfull; omega
      have go : ∀ M, SetTable.sizeAbove (SetTable.grown (L.length + 1)) - 1 = M → MaskOk M → SetTable.sizeAbove (SetTable.grown (L.length + 1)) ≤ 128 → (L.length + 1) * 5 < M * 3 →
          wpAny (model P w) A (setRelay a (SetTable.grown (L.length + 1))) (fun _ s' => wpAny (model P w) A (pure true) Q E s') E { s with heap := h1 } := fun M h1' h2' h3' h4' => by
        refine relay_at (s := { s with heap := h1 }) ho1 ⟨hex.1, hex.2.1, hex.2.2⟩ rfl hin hsz1 q3.dm (by rw [hes, q4]; rcases cases2 with ⟨e, e2⟩ | ⟨e, e2⟩ <;> omega) nd1 tup1 hp1 ld1 (by rw [hlen]; exact hfew) h1' h2' h3' (by rw [hlen]; exact h4') ?_
        intro h2 L2 es2 ep2 t2 sb2 R2 pm2
        refine wpAny_pure (hQ true h2 L2 es2 ep2 t2 (sb.trans sb2) R2 (fun z => absurd z hm) fun _ => pm2.trans pm)
      rcases cases2 with ⟨_, e2⟩ | ⟨_, e2⟩
      · refine go 31 (by rw [e2, size_20]) (.inr (.inl rfl)) (by rw [e2, size_20]; decide) (by omega)
      · refine go 127 (by rw [e2, size_76]) (.inr (.inr rfl)) (by rw [e2, size_76]; decide) (by omega)
    · first
        | refine wp_if_neg (by simp [hf]) ?_
        | (refine wpAny_bind ?_; refine wp_if_neg (by simp [hf]) ?_; refine wpAny_pure ?_)
      refine wpAny_pure (hQ true h1 L1 es1 (ep + 1) t1 sb ⟨⟨_, ho1, ⟨hex.1, hex.2.1, hex.2.2⟩, rfl⟩, hin, q3, nd1, tup1, hp1, ld1, ?_, by rw [hlen]; exact hfew⟩ (fun z => absurd z hm) fun _ => pm)
      have h := hf
      unfold SetTable.tooFull at h
      rw [decide_eq_true_eq, q9, List.length_map] at h
      rw [hlen]
      omega


structure GotN (ks : List (Addr × NestedKey)) (i : Nat) (L : List (Addr × NestedKey)) : Prop where
  sub : ∀ p ∈ L, p ∈ ks.take i
  all : ∀ p ∈ ks.take i, p.2 ∈ L.map (·.2)
  len : L.length ≤ i
theorem GotN.zero (ks : List (Addr × NestedKey)) : GotN ks 0 [] := ⟨fun p h => (by cases h), fun p h => (by simp at h), Nat.le_refl _⟩
theorem GotN.same {ks L : List (Addr × NestedKey)} {i : Nat} {x : Addr × NestedKey} (g : GotN ks i L) (h : ks[i]? = some x) (hm : x.2 ∈ L.map (·.2)) : GotN ks (i + 1) L := by
  refine ⟨fun p hp => ?_, fun p hp => ?_, Nat.le_succ_of_le g.len⟩
  · rw [take_next h]
    exact List.mem_append_left _ (g.sub p hp)
  · rw [take_next h] at hp
    rcases List.mem_append.mp hp with z | z
    · exact g.all p z
    · rw [List.mem_singleton.mp z]; exact hm
theorem GotN.more {ks L L' : List (Addr × NestedKey)} {i : Nat} {x : Addr × NestedKey} (g : GotN ks i L) (h : ks[i]? = some x) (pm : L'.Perm (x :: L)) : GotN ks (i + 1) L' := by
  refine ⟨fun p hp => ?_, fun p hp => ?_, ?_⟩
  · rw [take_next h]
    rcases List.mem_cons.mp (pm.mem_iff.mp hp) with e | z
    · rw [e]; exact List.mem_append_right _ (List.mem_singleton.mpr rfl)
    · exact List.mem_append_left _ (g.sub p z)
  · rw [(pm.map (·.2)).mem_iff, List.map_cons]
    rw [take_next h] at hp
    rcases List.mem_append.mp hp with z | z
    · exact List.mem_cons_of_mem _ (g.all p z)
    · rw [List.mem_singleton.mp z]; exact List.mem_cons_self
  · rw [pm.length_eq, List.length_cons]
    exact Nat.succ_le_succ g.len

theorem isN_keep {h h' : Heap} {k : NestedKey} {b : Addr} (x : IsN h k b) (hk : ∀ c o, h.get? c = some o → h'.get? c = some o) : IsN h' k b := ⟨NestedIs.at (fun c o _ _ e _ => hk c o e) _ _ x.1, x.2⟩
theorem SetNR.keep {h h' : Heap} {a : Addr} {L : List (Addr × NestedKey)} {es : Array (Int × Value)} {ep : Nat} {t : SetTable} (R : SetNR w h a L es ep t) (ha : ∀ o, h.get? a = some o → h'.get? a = some o) (ht : ∀ p ∈ L, IsN h' p.2 p.1) : SetNR w h' a L es ep t := by
  obtain ⟨o, ho, r⟩ := R.ob
  exact ⟨⟨o, ha o ho, r⟩, R.rows, R.tab, R.nd, ht, R.plain, R.led, R.room, R.few⟩
/-- a new set -/
theorem setNR_fresh {h : Heap} {a : Addr} (ho : h.get? a = some { cls := .type "set", dict := none, data := .set #[] 0 (.fresh 0 0 (!w.params.followText "set-order")) }) : SetNR w h a [] #[] 0 (.fresh 0 0 (!w.params.followText "set-order")) where
  ob := ⟨_, ho, ⟨rfl, rfl, rfl⟩, rfl⟩
  rows := rfl
  tab := ⟨List.Pairwise.nil, rfl, rfl, .inl rfl, fun x hx => (by cases hx), fun i h j hi => (by simp at hi)⟩
  nd := List.nodup_nil
  tup := fun p hp => (by cases hp)
  plain := rfl
  led := by
    show _ ∨ (!w.params.followText "set-order") = true
    cases w.params.followText "set-order"
    · exact .inr rfl
    · exact .inl rfl
  room := by
    show 0 * 5 < 7 * 3
    decide
  few := by
    show 0 < 64
    decide

/-- set.update's loop -/
theorem set_update_n {I : Addr} {fp wr : List Addr} {G : Array GenState → Array GenState → Prop} {n : Nat} {Pv : Nat → Value → Prop} {St : Nat → Shared → Prop} {R : Result → Shared → Prop}
    (W : WalksS P w A.in1 I fp wr G n Pv St) (S : Addr) (hSf : S ∉ fp) (ks : List (Addr × NestedKey)) (hn : n = ks.length) (hfew : ks.length < 64) (hval : ∀ i v, Pv i v → ∃ p, ks[i]? = some p ∧ v = .ref p.1)
    (h0 : Heap) (hk : ∀ p ∈ ks, IsN h0 p.2 p.1) (hS0 : h0.get? S = none) (hw0 : ∀ b ∈ wr, h0.get? b = none) (hu : A.in1.units + 8 < cLine) :
    ∀ (k i : Nat) (s : Shared), n - i = k → i ≤ n → St i s → (∀ b o, h0.get? b = some o → s.heap.get? b = some o) → (∃ L es ep t, SetNR w s.heap S L es ep t ∧ GotN ks i L) →
      (∀ s' L es ep t, Moved (S :: wr) G s s' → SetNR w s'.heap S L es ep t → GotN ks n L → (∀ b o, h0.get? b = some o → s'.heap.get? b = some o) → R (.ok (.ret .none)) s') →
      codeAny (model P w) A (.builtin "set.update.loop" ⟨[.ref S, .ref I], []⟩) R s := by
  have hSw : S ∉ wr := fun h => hSf (W.sub _ h)
  have hsub : ∀ b ∈ wr, b ∈ S :: wr := fun b hb => List.mem_cons_of_mem _ hb
  have keepM : ∀ {s s' : Shared}, Moved wr G s s' → (∀ b o, h0.get? b = some o → s.heap.get? b = some o) → ∀ b o, h0.get? b = some o → s'.heap.get? b = some o := fun hm hkp b o e =>
    hm.heap b o (fun hb => by rw [hw0 b hb] at e; cases e) (hkp b o e)
  intro k
  induction k with
  | zero =>
    intro i s hk' hi hst hkp ⟨L, es, ep, t, hS, g⟩ hR
    have hin : i = n := by omega
    subst hin
    refine codeAny_builtin F.entry_set_update_loop ?_
    rw [Around.under_plainId F.plain_set_update_loop _]
    show wpAny _ A.in1 (pyNext (.ref I) >>= _) _ _ s
    refine wpAny_bind (W.done s _ _ hst fun s' hm => ?_)
    show wpAny _ A.in1 (ret Value.none) _ _ s'
    have hkp' := keepM hm hkp
    have sub : ∀ p ∈ L, p ∈ ks := fun p hp => List.mem_of_mem_take (g.sub p hp)
    exact wpAny_pure (hR s' L es ep t (hm.mono hsub) (hS.keep (fun o e => hm.heap S o hSw e) fun p hp => isN_keep (hk p (sub p hp)) hkp') g hkp')
  | succ k ih =>
    intro i s hk' hi hst hkp ⟨L, es, ep, t, hS, g⟩ hR
    have hlt : i < n := by omega
    refine codeAny_builtin F.entry_set_update_loop ?_
    rw [Around.under_plainId F.plain_set_update_loop _]
    show wpAny _ A.in1 (pyNext (.ref I) >>= _) _ _ s
    refine wpAny_bind (W.item i s _ _ hlt hst fun v s' hP hst' hm => ?_)
    obtain ⟨p, hp, rfl⟩ := hval i v hP
    have hkp' := keepM hm hkp
    have sub : ∀ p ∈ L, p ∈ ks := fun p hp => List.mem_of_mem_take (g.sub p hp)
    have hS' : SetNR w s'.heap S L es ep t := hS.keep (fun o e => hm.heap S o hSw e) fun q hq => isN_keep (hk q (sub q hq)) hkp'
    have hx : IsN s'.heap p.2 p.1 := isN_keep (hk p (List.mem_of_getElem? hp)) hkp'
    show wpAny _ A.in1 (holding [Value.ref p.1] (setAdd S (.ref p.1)) >>= _) _ _ s'
    refine wpAny_bind (wpAny_holding ?_)
    unfold setAdd
    refine wpAny_holding ?_
    refine wpAny_bind ((nestedKind P w).pyHash hu hx.kd ?_)
    refine add_at (s := { s' with toks := s'.toks + p.2.draws }) hS' hx hu (by have := g.len; omega) fun b h' L' es' ep' t' hsb hS2 c1 c2 => ?_
    have g' : GotN ks (i + 1) L' := by
      rcases Classical.em (p.2 ∈ L.map (·.2)) with c | c
      · rw [c1 c]; exact g.same hp c
      · exact g.more hp (c2 c)
    have hkp2 : ∀ b o, h0.get? b = some o → h'.get? b = some o := fun b o e => (hsb.2 b (fun z => by rw [z, hS0] at e; cases e)).trans (hkp' b o e)
    refine wpAny_pure ⟨plainId_quiet F.plain_set_update_loop _, ih (i + 1) _ (by omega) hlt (W.frame _ s' _ _ hst' (Nat.le_add_right _ _) fun b hb o e => ?_) hkp2 ⟨L', es', ep', t', hS2, g'⟩ fun s'' L2 es2 ep2 t2 hm'' hS'' g'' hkp'' => ?_⟩
    · rw [hsb.2 b (fun h : b = S => hSf (by rw [← h]; exact hb))]; exact e
    · refine hR s'' L2 es2 ep2 t2 (Moved.trans W.gtrans ((hm.mono hsub).then_heap (Nat.le_add_right _ _) fun b o hb e => ?_) hm'') hS'' g'' hkp''
      rw [hsb.2 b (fun h : b = S => hb (by rw [h]; exact List.mem_cons_self))]; exact e

set_option maxRecDepth 100000 in
set_option maxHeartbeats 3200000 in
/-- set(xs) -/
theorem call_set_n {l : Addr} {items : Array Value} (ks : List (Addr × NestedKey)) {Q : Value → Shared → Prop} (hh : A.handled = none) (hl : s.heap.IsList l items) (hit : items.toList = ks.map fun p => Value.ref p.1)
    (hk : ∀ p ∈ ks, IsN s.heap p.2 p.1) (hfew : ks.length < 64) (hu : A.units + 12 < cLine)
    (h : ∀ (h' : Heap) (tk : Nat) L es ep t, SetNR w h' s.heap.objs.size L es ep t → GotN ks ks.length L → (∀ b o, s.heap.get? b = some o → h'.get? b = some o) → Q (.ref s.heap.objs.size) { s with heap := h', toks := tk }) :
    wpAny (model P w) A (call (.type "set") [.ref l]) Q E s := by
  have hisz : items.size = ks.length := by
    have q := congrArg List.length hit
    rw [Array.length_toList, List.length_map] at q
    exact q
  obtain ⟨c, tl, hmro⟩ := F.called_set.mro
  have hmade := F.called_set.made
  have hsub := F.called_set.sub
  refine wpAny_call (codeAny_of_tree ?_)
  show wpAny _ _ (callAny (.type "set") _) _ _ _
  refine wpAny_pure ⟨Code.quiet_builtin _ (by decide +kernel), codeAny_builtin F.entry_type_call ?_⟩
  rw [Around.under_plain (weight_type_call_type "set" [.ref l] []) rfl]
  have h1 := F.called_set.notType
  have h2 := F.called_set.canCreate
  have hct := F.typeCall_set_1 (.ref l)
  repeat (any_goals (first | assumption | wp_step))

  refine codeAny_mono (code_set_led1 (.ref l) (E := E) (Q₁ := fun obj s₁ => obj = .ref s.heap.objs.size ∧ s₁ = { s with heap := s.heap.push { cls := .type "set", dict := none, data := .set #[] 0 (.fresh 0 0 (!w.params.followText "set-order")) } }) ⟨rfl, rfl⟩) fun r s₁ hr => ?_
  cases r with
  | error e => exact hr
  | ok fl =>
    cases fl with
    | ret obj =>
      obtain ⟨rfl, rfl⟩ := hr
      have hS : (s.heap.push { cls := .type "set", dict := none, data := .set #[] 0 (.fresh 0 0 (!w.params.followText "set-order")) }).get? s.heap.objs.size = some { cls := .type "set", dict := none, data := .set #[] 0 (.fresh 0 0 (!w.params.followText "set-order")) } := Heap.get?_push_size _ rfl
      have hT : Shared.TypeIs { s with heap := s.heap.push { cls := .type "set", dict := none, data := .set #[] 0 (.fresh 0 0 (!w.params.followText "set-order")) } } (.ref s.heap.objs.size) "set" := ⟨_, hS, rfl⟩
      have hli := F.called_set.init.lookup
      have hbi := F.called_set.init.bind (.ref s.heap.objs.size)
      repeat (any_goals (first | assumption | wp_step))

      refine codeAny_mono (codeAny_call_builtin (R := wants (fun r s₂ => r = .none ∧ ∃ h' tk L es ep t, s₂ = { s with heap := h', toks := tk } ∧ SetNR w h' s.heap.objs.size L es ep t ∧ GotN ks ks.length L ∧
          (∀ b o, s.heap.get? b = some o → h'.get? b = some o)) E) F.called_set.init.plain F.entry_set_init (check_set_init_1 hT ?_)) fun r₂ s₂ hr₂ => ?_
      · obtain ⟨ol, hol, hcl, nl, hdl⟩ := hl
        obtain ⟨ocls, odict, odata, oslots⟩ := ol
        simp only at hcl hdl
        subst hcl; subst hdl
        have hol' : (s.heap.push { cls := .type "set", dict := none, data := .set #[] 0 (.fresh 0 0 (!w.params.followText "set-order")) }).get? l = some { cls := .type "list", dict := odict, data := .seq items nl, slots := oslots } := Heap.get?_push_of_some _ hol
        have hsls := F.sub_list_set
        have hslf := F.sub_list_frozenset
        have hne : (Value.type "list" == Value.type "dict") = false := by decide
        have hl1 : (s.heap.push { cls := .type "set", dict := none, data := .set #[] 0 (.fresh 0 0 (!w.params.followText "set-order")) }).IsList l items := ⟨_, hol', rfl, nl, rfl⟩
        unfold Builtin.«set.__init__» noKeywords Builtin.Frozenset.updateFrom
        generalize hPI : pyIter = PI
        wp_walk
        subst hPI

        refine wpAny_pyIter_list hl1 ?_
        refine wpAny_bind (wpAny_runValue ?_)
        have hlS : l < s.heap.objs.size := Heap.lt_size hol
        have hh3 : A.in1.in1.in1.handled = none := by simp [hh]
        have hz1 : (s.heap.push { cls := .type "set", dict := none, data := .set #[] 0 (.fresh 0 0 (!w.params.followText "set-order")) }).objs.size = s.heap.objs.size + 1 := Heap.size_push ..
        have hneI : l ≠ (s.heap.push { cls := .type "set", dict := none, data := .set #[] 0 (.fresh 0 0 (!w.params.followText "set-order")) }).objs.size := by
          rw [Heap.size_push]; exact Nat.ne_of_lt (Nat.lt_succ_of_lt hlS)
        have hSf : s.heap.objs.size ∉ [(s.heap.push { cls := .type "set", dict := none, data := .set #[] 0 (.fresh 0 0 (!w.params.followText "set-order")) }).objs.size, l] := by
          rw [Heap.size_push]; simp only [List.mem_cons, List.mem_singleton, List.not_mem_nil, or_false, not_or]
          exact ⟨Nat.ne_of_lt (Nat.lt_succ_self _), Nat.ne_of_gt hlS⟩
        have hval : ∀ (i : Nat) (v : Value), items[i]? = some v → ∃ p, ks[i]? = some p ∧ v = .ref p.1 := fun i v hv => by
          have q : items.toList[i]? = some v := by rw [Array.getElem?_toList]; exact hv
          rw [hit, List.getElem?_map] at q
          cases hq : ks[i]? with
          | none => rw [hq] at q; cases q
          | some p =>
            rw [hq] at q
            exact ⟨p, rfl, (Option.some.inj q).symm⟩
        have none_of : ∀ b, s.heap.objs.size ≤ b → s.heap.get? b = none := fun b hb => by
          cases q : s.heap.get? b with
          | none => rfl
          | some o => exact absurd (Nat.lt_of_lt_of_le (Heap.lt_size q) hb) (Nat.lt_irrefl _)
        refine set_update_n ((Walks.list hh3 _ l hneI items).toS) s.heap.objs.size
          hSf ks hisz hfew hval s.heap hk (none_of _ (Nat.le_refl _)) (fun b hb => none_of b (by
            rw [List.mem_singleton.mp hb, Heap.size_push]
            exact Nat.le_succ _)) (show A.units + 1 + 1 + 1 + 8 < cLine by omega) (items.size - 0) 0 _ (by omega) (Nat.zero_le _)
          ⟨⟨_, Heap.get?_push_size _ rfl, rfl, rfl⟩, (hl1.push _)⟩ (fun b o e => Heap.get?_push_of_some _ (Heap.get?_push_of_some _ e)) ?hS0 ?hR
        case hS0 =>
          have hget : ((s.heap.push { cls := .type "set", dict := none, data := .set #[] 0 (.fresh 0 0 (!w.params.followText "set-order")) }).push { cls := .type "list_iterator", data := .fields #[.ref l, .int 0 0] }).get? s.heap.objs.size
              = some { cls := .type "set", dict := none, data := .set #[] 0 (.fresh 0 0 (!w.params.followText "set-order")) } := Heap.get?_push_of_some _ hS
          exact ⟨[], #[], 0, _, setNR_fresh hget, GotN.zero ks⟩
        case hR =>
          intro s' L es ep t hm hS' g' hkp
          obtain ⟨h', g2, d', tk', os'⟩ := s'
          have eg : g2 = s.gens := hm.gens
          have ed : d' = s.drawn := hm.drawn
          have eo : os' = s.os := hm.os
          subst eg; subst ed; subst eo
          show wpAny _ _ _ _ _ _
          refine wpAny_pure ?_
          show wpAny _ _ (ret Value.none) _ _ _
          rw [hisz] at g'
          exact wpAny_pure ⟨rfl, h', tk', L, es, ep, t, rfl, hS', g', hkp⟩

      · cases r₂ with
        | error e => exact hr₂
        | ok fl₂ =>
          cases fl₂ with
          | ret r =>
            obtain ⟨rfl, h', tk, L, es, ep, t, rfl, hS', g', hk'⟩ := hr₂
            repeat (any_goals (first | assumption | wp_step))
            exact h _ _ _ _ _ _ hS' g' hk'
          | _ => exact hr₂.elim
    | _ => exact hr.elim
end
end Dn
set_option Elab.async false
set_option linter.all false
set_option maxRecDepth 100000
namespace Dn
open PySem PySem.Spec PyProof.Rows L2

/-! ### keys as data -/
mutual
def kd : NestedKey → D
  | .num i => .int i
  | .tup ks => .tup (kdAll ks)
  | .none => .non
  | .text x => .str x
def kdAll : List NestedKey → List D
  | [] => []
  | k :: ks => kd k :: kdAll ks
end
mutual
def pyOf : NestedKey → PyData
  | .num i => .int i
  | .tup ks => .tuple (pyOfAll ks)
  | .none => .none
  | .text x => .str x
def pyOfAll : List NestedKey → List PyData
  | [] => []
  | k :: ks => pyOf k :: pyOfAll ks
end
mutual
theorem nk_kd : ∀ (d : D) (k : NestedKey), nk d = some k → d = kd k ∧ inn k = true
  | .int i, _, e => by unfold nk at e; cases e; exact ⟨rfl, rfl⟩
  | .tup l, _, e => by
    unfold nk at e
    cases h1 : nkAll l with
    | none => rw [h1] at e; cases e
    | some ks =>
      rw [h1] at e; cases e
      obtain ⟨e1, e2⟩ := nk_kdAll l ks h1
      exact ⟨by rw [e1]; rfl, e2⟩
  | .non, _, e => by unfold nk at e; cases e
  | .bl _, _, e => by unfold nk at e; cases e
  | .str _, _, e => by unfold nk at e; cases e
  | .ty _, _, e => by unfold nk at e; cases e
  | .lst _, _, e => by unfold nk at e; cases e
  | .frl _, _, e => by unfold nk at e; cases e
  | .dct _ _, _, e => by unfold nk at e; cases e
theorem nk_kdAll : ∀ (ds : List D) (ks : List NestedKey), nkAll ds = some ks → ds = kdAll ks ∧ innAll ks = true
  | [], _, e => by unfold nkAll at e; cases e; exact ⟨rfl, rfl⟩
  | d :: ds, _, e => by
    unfold nkAll at e
    cases h1 : nk d with
    | none => rw [h1] at e; cases e
    | some k =>
      rw [h1] at e
      simp only [Option.bind_some] at e
      cases h2 : nkAll ds with
      | none => rw [h2] at e; cases e
      | some ks =>
        rw [h2] at e; cases e
        obtain ⟨a1, a2⟩ := nk_kd d k h1
        obtain ⟨b1, b2⟩ := nk_kdAll ds ks h2
        exact ⟨by rw [a1, b1]; rfl, by unfold innAll; rw [a2, b2]; rfl⟩
end
mutual
theorem toPy_kd : ∀ k : NestedKey, toPy (kd k) = some (pyOf k)
  | .num i => rfl
  | .none => rfl
  | .text x => rfl
  | .tup ks => by
    show (toPyAll (kdAll ks)).map PyData.tuple = _
    rw [toPyAll_kd ks]; rfl
theorem toPyAll_kd : ∀ ks : List NestedKey, toPyAll (kdAll ks) = some (pyOfAll ks)
  | [] => rfl
  | k :: ks => by
    show (toPy (kd k)).bind _ = _
    rw [toPy_kd k, Option.bind_some, toPyAll_kd ks]; rfl
end
mutual
theorem pyOf_eqv : ∀ a b : NestedKey, inn a = true → inn b = true → PyData.eqv (pyOf a) (pyOf b) = true → a = b
  | .num i, .num j, _, _, e => by
    have : decide (i = j) = true := by simpa [pyOf, PyData.eqv] using e
    rw [of_decide_eq_true this]
  | .tup xs, .tup ys, h1, h2, e => by
    have e' : PyData.eqvAll (pyOfAll xs) (pyOfAll ys) = true := by simpa [pyOf, PyData.eqv] using e
    rw [pyOfAll_eqv xs ys h1 h2 e']
  | .num i, .tup ys, _, _, e => by simp [pyOf, PyData.eqv] at e
  | .tup xs, .num j, _, _, e => by simp [pyOf, PyData.eqv] at e
  | .none, _, h, _, _ => by cases h
  | .text _, _, h, _, _ => by cases h
  | .num _, .none, _, h, _ => by cases h
  | .num _, .text _, _, h, _ => by cases h
  | .tup _, .none, _, h, _ => by cases h
  | .tup _, .text _, _, h, _ => by cases h
theorem pyOfAll_eqv : ∀ a b : List NestedKey, innAll a = true → innAll b = true → PyData.eqvAll (pyOfAll a) (pyOfAll b) = true → a = b
  | [], [], _, _, _ => rfl
  | [], _ :: _, _, _, e => by simp [pyOfAll, PyData.eqvAll] at e
  | _ :: _, [], _, _, e => by simp [pyOfAll, PyData.eqvAll] at e
  | x :: xs, y :: ys, h1, h2, e => by
    unfold innAll at h1 h2
    rw [Bool.and_eq_true] at h1 h2
    have e' : PyData.eqv (pyOf x) (pyOf y) = true ∧ PyData.eqvAll (pyOfAll xs) (pyOfAll ys) = true := by simpa [pyOfAll, PyData.eqvAll] using e
    rw [pyOf_eqv x y h1.1 h2.1 e'.1, pyOfAll_eqv xs ys h1.2 h2.2 e'.2]
end
theorem dataLe_iff {β : Type} (k : β → PyData) (a b : β) : PySem.W.dataLe false k a b = !PySem.W.dataLt (k b) (k a) := rfl
theorem dataLe_trans {β : Type} (k : β → PyData) : ∀ a b c, PySem.W.dataLe false k a b = true → PySem.W.dataLe false k b c = true → PySem.W.dataLe false k a c = true := by
  intro a b c h1 h2
  have e1 : PySem.W.dataLt (k b) (k a) = false := by rw [dataLe_iff, Bool.not_eq_true'] at h1; exact h1
  have e2 : PySem.W.dataLt (k c) (k b) = false := by rw [dataLe_iff, Bool.not_eq_true'] at h2; exact h2
  have e3 : PySem.W.dataLt (k c) (k a) = false := by
    cases e : PySem.W.dataLt (k c) (k a) with
    | false => rfl
    | true =>
      rcases lex_negTrans _ (PySem.W.keyToks (k b)) _ e with z | z
      · exact absurd (z.symm.trans e2) (by decide)
      · exact absurd (z.symm.trans e1) (by decide)
  rw [dataLe_iff, e3]; rfl
theorem dataLe_total {β : Type} (k : β → PyData) : ∀ a b, (PySem.W.dataLe false k a b || PySem.W.dataLe false k b a) = true := by
  intro a b
  cases e1 : PySem.W.dataLt (k b) (k a) with
  | false => rw [dataLe_iff, e1]; rfl
  | true =>
    cases e2 : PySem.W.dataLt (k a) (k b) with
    | false => rw [dataLe_iff k b a, e2, Bool.not_false, Bool.or_true]
    | true =>
      have e3 := lex_trans _ _ _ e1 e2
      rw [lex_irrefl] at e3
      cases e3
theorem dataLe_key {a b : NestedKey} (ha : inn a = true) (hb : inn b = true) (al : PySem.W.alike (pyOf a) (pyOf b) = true) (h1 : PySem.W.dataLe false pyOf a b = true) (h2 : PySem.W.dataLe false pyOf b a = true) : a = b := by
  have e1 : PySem.W.dataLt (pyOf b) (pyOf a) = false := by rw [dataLe_iff, Bool.not_eq_true'] at h1; exact h1
  have e2 : PySem.W.dataLt (pyOf a) (pyOf b) = false := by rw [dataLe_iff, Bool.not_eq_true'] at h2; exact h2
  have et := lex_total _ _ e2 e1
  refine pyOf_eqv a b ha hb ?_
  cases e : PyData.eqv (pyOf a) (pyOf b) with
  | true => rfl
  | false =>
    have t := (PySem.W.toks_eqv _ _ al).2 e [] [.inl 0]
    rw [et, PySem.W.lex_pre] at t
    rw [lex_irrefl] at t
    cases t
theorem pairwise_key {l l' : List NestedKey} (hp : l.Perm l') (hi : ∀ k ∈ l, inn k = true) (al : PySem.W.AllAlike (l.map pyOf)) : l.mergeSort (PySem.W.dataLe false pyOf) = l'.mergeSort (PySem.W.dataLe false pyOf) := by
  refine List.Perm.eq_of_pairwise (le := fun a b => PySem.W.dataLe false pyOf a b = true) (fun a b ha hb h1 h2 => ?_) (List.pairwise_mergeSort (dataLe_trans _) (dataLe_total _) _) (List.pairwise_mergeSort (dataLe_trans _) (dataLe_total _) _) (((List.mergeSort_perm _ _).trans hp).trans (List.mergeSort_perm _ _).symm)
  have ha' : a ∈ l := List.mem_mergeSort.mp ha
  have hb' : b ∈ l := hp.mem_iff.mpr (List.mem_mergeSort.mp hb)
  exact dataLe_key (hi a ha') (hi b hb') (al _ (List.mem_map.mpr ⟨a, ha', rfl⟩) _ (List.mem_map.mpr ⟨b, hb', rfl⟩)) h1 h2

/-! ### set(xs), then sorted -/
structure SetN0 (w : World) (h : Heap) (a : Addr) (L : List (Addr × NestedKey)) : Prop where
  ex : ∃ (es : Array (Int × Value)) (ep : Nat) (t : SetTable), (∃ o, h.get? a = some o ∧ o.ExactSet ∧ o.data = .set es ep t) ∧ es.toList = rowsN w L ∧ TabOk t (L.map fun p => nh w p.2) ∧ (L.map (·.2)).Nodup ∧ t.plain = true ∧
    (w.params.followText "set-order" = true ∨ t.led = true) ∧ L.length * 5 < t.mask * 3 ∧ L.length < 64
def SetNO (w : World) (a : Addr) (L : List (Addr × NestedKey)) : HO := .ext fun h => SetN0 w h a L
section
variable {w : World} {h : Heap} {a : Addr} {L : List (Addr × NestedKey)}
theorem SetNR.n0 {es : Array (Int × Value)} {ep : Nat} {t : SetTable} (R : SetNR w h a L es ep t) : SetN0 w h a L := ⟨es, ep, t, R.ob, R.rows, R.tab, R.nd, R.plain, R.led, R.room, R.few⟩
theorem SetN0.full (R : SetN0 w h a L) (ht : ∀ p ∈ L, IsN h p.2 p.1) : ∃ es ep t, SetNR w h a L es ep t :=
  let ⟨es, ep, t, h1, h2, h3, h4, h5, h6, h7, h8⟩ := R.ex
  ⟨es, ep, t, h1, h2, h3, h4, ht, h5, h6, h7, h8⟩
theorem setNO_new {P : Program} {H : Hp} (R : SetN0 w h a L) : ObjOk P w H h a (SetNO w a L) :=
  ⟨R, let ⟨_, _, _, ⟨o, ho, _⟩, _⟩ := R.ex; ⟨o, ho⟩, fun h1 h2 p k =>
    let ⟨es, ep, t, ⟨o, ho, r⟩, q⟩ := SetN0.ex p
    ⟨es, ep, t, ⟨o, k o ho, r⟩, q⟩⟩
end
abbrev ARow := Addr × NestedKey
def ARows (K : PySem.W.Frag) (H : Hp) (L : List ARow) : Prop := ∀ p ∈ L, NkV K H (.ref p.1) p.2 ∧ p.2.depth ≤ 8 ∧ inn p.2 = true
def rSetN (K : PySem.W.Frag) (w : World) : List V → Hp → VK → Prop := fun xs H Q => ∃ (l : Addr) (ks : List ARow), xs = [.ref l] ∧ SqL K H l (ks.map fun p => V.ref p.1) ∧ ARows K H ks ∧ ks.length < 64 ∧
  ∀ a L, H a = none → (∀ p ∈ L, p ∈ ks) → (∀ p ∈ ks, p.2 ∈ L.map (·.2)) → (L.map (·.2)).Nodup → Q (.ref a) (upd H a (SetNO w a L))
def rSortN (K : PySem.W.Frag) (w : World) : List V → Hp → VK → Prop := fun vs H Q => ∃ (a : Addr) (L : List ARow), vs = [V.ref a] ∧ H a = some (SetNO w a L) ∧ ARows K H L ∧ (∀ p ∈ L, Dp K H (.ref p.1) (pyOf p.2)) ∧
  PySem.W.AllAlike (L.map fun p => pyOf p.2) ∧ PySem.W.Sortable (L.map fun p => pyOf p.2) ∧ (∀ p ∈ L, (pyOf p.2).depth ≤ 60) ∧
  ∀ (L' : List ARow) (p : Addr), L'.Perm L → H p = none → Q (.ref p) (upd H p (.lst ((L'.mergeSort (PySem.W.dataLe false fun p => pyOf p.2)).map fun q => V.ref q.1)))
theorem arefs_of_vals : ∀ {ks : List ARow} {us : List Value}, Vals (ks.map fun p => V.ref p.1) us → us = ks.map fun p => Value.ref p.1
  | [], _, .nil => rfl
  | p :: ks, _, .cons r t => by
    cases r
    rw [arefs_of_vals t]; rfl
theorem vals_of_arefs : ∀ (ks : List ARow), Vals (ks.map fun p => V.ref p.1) (ks.map fun p => Value.ref p.1)
  | [] => .nil
  | _ :: ks => .cons rfl (vals_of_arefs ks)
section
variable {X : Cx}
theorem arow_is {pins : List (Addr × Obj)} {σ : L2.St} {H : Hp} {s : Shared} {L : List ARow} (I : Inv X pins σ H s) (h : ARows X.K H L) : ∀ p ∈ L, IsN s.heap p.2 p.1 := fun p hp =>
  ⟨NkV.is I _ _ _ (h p hp).1 rfl, (h p hp).2⟩
theorem call_setN (hc : X.calm = true) (hu : X.A.units + 70 < cLine) : CallR X (.type "set") (rSetN X.K X.w) := by
  intro pins s σ H xs us Q I r h
  obtain ⟨l, ks, rfl, hl, hk, hf, q⟩ := h
  rw [Vals.ref1 r]
  obtain ⟨its, rv, pl, hz⟩ := I.list hl
  refine call_set_n (P := X.prog) (w := X.w) ks (I.ok.hd hc) pl.isList (by simpa using arefs_of_vals rv) (arow_is I hk) hf (by omega) fun h' tk L es ep t R g k => ?_
  refine ⟨.ref s.heap.objs.size, upd H s.heap.objs.size (SetNO X.w s.heap.objs.size L), I.laid (t' := tk) k (Nat.le_refl _) (setNO_new R.n0), rfl, q _ L (I.hok.fresh (Nat.le_refl _)) (fun p hp => ?_) (fun p hp => ?_) R.nd⟩
  · exact List.mem_of_mem_take (g.sub p hp)
  · exact g.all p (by rw [List.take_length]; exact hp)
theorem call_sortN (hc : X.calm = true) (hu : X.A.units + 70 < cLine) : CallR X (.builtin "sorted") (rSortN X.K X.w) := by
  intro pins s σ H vs us Q I r h
  obtain ⟨a, L, rfl, ha, hk, hd, hal, hso, hdp, q⟩ := h
  have R0 : SetN0 X.w s.heap a L := (I.hok a _ ha).1
  obtain ⟨es, ep, t, R⟩ := R0.full (arow_is I hk)
  rw [Vals.ref1 r]
  obtain ⟨o, ho, hex, hdat⟩ := R.ob
  have hsz := R.size
  have hfew := R.few
  refine Calls.call_function_entry kind_sorted plain_sorted entry_sorted (args_sorted1 _) ?_
  unfold Builtin.«sorted»
  refine wpAny_bind (m := checkCount "sorted" 1 1 _) (wpAny_pure ?_)
  refine wpAny_bind (collect_set (A := X.A.in1) (I.ok.hd hc) ⟨o, ho, hex.1, hdat⟩ R.fits (by unfold scanBound; omega) R.tab.ris R.led fun s1 vs k1 hz g1 o1 pm => ?_)
  have hes : es.toList.map (·.2) = L.map fun q => Value.ref q.1 := by
    rw [R.rows]
    unfold rowsN
    rw [List.map_map]; rfl
  rw [hes] at pm
  -- the rows in the order of the set
  have one : ∀ q ∈ L, ∀ r ∈ L, q.1 = r.1 → q = r := fun q hq r hr e => by
    have a1 := (R.tup q hq).1
    have a2 := (R.tup r hr).1
    rw [e] at a1
    exact Prod.ext e (NestedIs.inj _ _ _ a1 a2)
  have ord : ∀ vs : List Value, (∀ v ∈ vs, ∃ q ∈ L, v = Value.ref q.1) → ∃ L1 : List ARow, vs = L1.map (fun q => Value.ref q.1) ∧ ∀ q ∈ L1, q ∈ L := by
    intro vs
    induction vs with
    | nil => intro _; exact ⟨[], rfl, fun q hq => nomatch hq⟩
    | cons v vs ih =>
      intro hv
      obtain ⟨q, hq, e⟩ := hv v List.mem_cons_self
      obtain ⟨L1, e1, hs⟩ := ih fun u hu => hv u (List.mem_cons_of_mem _ hu)
      refine ⟨q :: L1, by rw [List.map_cons, e, e1], fun r hr => ?_⟩
      rcases List.mem_cons.mp hr with z | z
      · rw [z]; exact hq
      · exact hs r z
  obtain ⟨L1, e1, hs1⟩ := ord vs fun v hv => by
    obtain ⟨q, hq, e⟩ := List.mem_map.mp (pm.mem_iff.mp hv)
    exact ⟨q, hq, e.symm⟩
  have nL : L.Nodup := L2.nodup_of_map R.nd
  have nref : (L.map fun q => Value.ref q.1).Nodup := List.pairwise_map.mpr (List.Pairwise.imp_of_mem (fun {q r} hq hr hne e => by
    injection e with e
    exact hne (one q hq r hr e)) nL)
  have pL : L1.Perm L := by
    have n1 : L1.Nodup := L2.nodup_of_map (by rw [← e1]; exact pm.nodup_iff.mpr nref)
    refine (List.perm_ext_iff_of_nodup n1 nL).mpr fun q => ⟨hs1 q, fun hq => ?_⟩
    have hm : Value.ref q.1 ∈ L1.map (fun q => Value.ref q.1) := by rw [← e1]; exact pm.mem_iff.mpr (List.mem_map.mpr ⟨q, hq, rfl⟩)
    obtain ⟨r, hr, e⟩ := List.mem_map.mp hm
    injection e with e
    rw [← one r (hs1 r hr) q hq e]
    exact hr
  have hlen1 : L1.length = L.length := pL.length_eq
  have hvl : vs.length = L.length := by rw [e1, List.length_map, hlen1]
  refine wpAny_bind (wpAny_newList ?_ (by rw [hvl, sizeLine_eq]; omega))
  have hoL : (s1.heap.push (seqObj "list" vs.toArray 0)).get? s1.heap.objs.size = some (seqObj "list" vs.toArray 0) := Heap.get?_push_size _ rfl
  have old : ∀ b o, s1.heap.get? b = some o → (PySem.W.sortingHeap (s1.heap.push (seqObj "list" vs.toArray 0)) s1.heap.objs.size vs).get? b = some o := fun b o e =>
    PySem.W.sortingHeap_old (Nat.ne_of_lt (Heap.lt_size e)) (Heap.get?_push_of_some _ e)
  have mem1 : ∀ p ∈ L1, p ∈ L := fun p hp => pL.mem_iff.mp hp
  have each : PySem.W.EachIs (fun (v : Value) (p : ARow) => v = Value.ref p.1) vs L1 := by
    rw [e1]
    clear e1 hvl hs1 pL mem1 hlen1 pm hoL old
    induction L1 with
    | nil => exact .nil
    | cons p l ih => exact .cons rfl (ih)
  have er' : PySem.W.EachIs (fun v (p : ARow) => ∃ as, Reads (PySem.W.sortingHeap (s1.heap.push (seqObj "list" vs.toArray 0)) s1.heap.objs.size vs) v (pyOf p.2) as) vs L1 := by
    refine (PySem.W.each_mem each).mono fun v p ⟨ev, hp⟩ => ?_
    obtain ⟨as, rd⟩ := Dp.reads I _ _ v (hd p (mem1 p hp)) (show RelV (.ref p.1) v from ev)
    exact ⟨as, PyProof.Rows.Reads.keeps (fun b u e => old b u (k1 b u e)) rd⟩
  have hal1 : PySem.W.AllAlike (L1.map fun p => pyOf p.2) := fun d hd' d' hd2 => hal d ((pL.map _).mem_iff.mp hd') d' ((pL.map _).mem_iff.mp hd2)
  have hso1 : PySem.W.Sortable (L1.map fun p => pyOf p.2) := by
    rcases hso with z | z
    · exact .inl fun d hd' => z d ((pL.map _).mem_iff.mp hd')
    · exact .inr fun d hd' => z d ((pL.map _).mem_iff.mp hd')
  refine wpAny_bind (wpAny_holding (wpAny_call_entry slot_list_sort ⟨_, hoL, rfl⟩ entry_list_sort (PySem.W.list_sort_vals (s := { s1 with heap := s1.heap.push (seqObj "list" vs.toArray 0) }) (κ := PySem.W.dataKind (PySem.W.sortingHeap (s1.heap.push (seqObj "list" vs.toArray 0)) s1.heap.objs.size vs) (L1.map fun p => pyOf p.2)) hoL (PySem.W.SortsAt.data (s := { s1 with heap := PySem.W.sortingHeap (s1.heap.push (seqObj "list" vs.toArray 0)) s1.heap.objs.size vs }) (PySem.W.each_map (R := fun v d => ∃ as, Reads (PySem.W.sortingHeap (s1.heap.push (seqObj "list" vs.toArray 0)) s1.heap.objs.size vs) v d as) (fun p : ARow => pyOf p.2) er') hal1 hso1 (PySem.W.bound_map (enc := fun p : ARow => pyOf p.2) fun p hp => ?_)) ?_ ⟨.none, rfl, ?_⟩) (args_list_sort _)))
  · have := hdp p (mem1 p hp)
    show X.A.units + 1 + 1 + (pyOf p.2).depth < cLine
    omega
  · rw [hvl, sizeLine_eq]; omega
  have eo := PySem.W.sortVals_data false each er' hal1
  generalize hout : PySem.W.sortVals _ _ vs vs = out at eo ⊢
  have hol : out.length = L.length := by
    have := eo.length
    rw [List.length_mergeSort] at this
    omega
  obtain ⟨c, hcx⟩ := sortedHeap_at (vs := vs) (out := out.toArray) hoL
  have vals : ∀ {l : List ARow} {us : List Value}, PySem.W.EachIs (fun (v : Value) (p : ARow) => v = Value.ref p.1) us l → us = l.map fun p => Value.ref p.1 := by
    intro l us e
    induction e with
    | nil => rfl
    | cons h _ ih => rw [h, ih]; rfl
  have hv := vals eo
  have kept : ∀ b u, s.heap.get? b = some u → (sortedHeap (s1.heap.push (seqObj "list" vs.toArray 0)) s1.heap.objs.size vs out.toArray).get? b = some u := fun b u e => by
    have q := k1 b u e
    have hlt := Heap.lt_size q
    rw [sortedHeap_old (Nat.ne_of_lt hlt) (by rw [size_push']; exact Nat.lt_succ_of_lt hlt)]
    exact Heap.get?_push_of_some _ q
  have hn : H s1.heap.objs.size = none := I.hok.fresh hz
  have hlen : (((L1.mergeSort (PySem.W.dataLe false fun p => pyOf p.2)).map fun q => V.ref q.1)).length ≤ sizeLine := by rw [List.length_map, List.length_mergeSort, sizeLine_eq]; omega
  have J : Inv X pins σ (upd H s1.heap.objs.size (.lst ((L1.mergeSort (PySem.W.dataLe false fun p => pyOf p.2)).map fun q => V.ref q.1))) { s with heap := sortedHeap (s1.heap.push (seqObj "list" vs.toArray 0)) s1.heap.objs.size vs out.toArray, gens := s1.gens, drawn := s1.drawn, toks := s1.toks } :=
    I.call (ch := []) (Un.laid kept hz hn) (I.hok.laid kept hz ⟨hlen, out, c, by rw [hv]; exact vals_of_arefs _, hcx⟩) (by rw [g1]; exact I.bare) (fun _ z => nomatch z)
  have e : ({ s1 with heap := sortedHeap (s1.heap.push (seqObj "list" vs.toArray 0)) s1.heap.objs.size vs out.toArray } : Shared) = { s with heap := sortedHeap (s1.heap.push (seqObj "list" vs.toArray 0)) s1.heap.objs.size vs out.toArray, gens := s1.gens, drawn := s1.drawn, toks := s1.toks } := by
    cases s1
    cases s
    cases o1
    rfl
  show wpAny _ _ _ _ _ { s1 with heap := sortedHeap (s1.heap.push (seqObj "list" vs.toArray 0)) s1.heap.objs.size vs out.toArray }
  rw [e]
  exact wpAny_pure ⟨_, rfl, .ref s1.heap.objs.size, _, J, rfl, q L1 _ pL hn⟩
end
end Dn
set_option Elab.async false
set_option linter.all false
set_option maxRecDepth 100000
namespace Dn
open PySem PySem.Spec PyProof.Rows L2

theorem uq_nodup {α : Type} (rs : List (NestedKey × α)) : ((uq rs).map (·.1)).Nodup := by
  have key : ∀ (rs acc : List (NestedKey × α)), (acc.map (·.1)).Nodup → ((rs.foldl uqPut acc).map (·.1)).Nodup := by
    intro rs
    induction rs with
    | nil => intro acc h; exact h
    | cons r rs ih => intro acc h; exact ih _ (uqPut_nodup h)
  exact key rs [] List.nodup_nil
theorem uq_keys {α : Type} (rs : List (NestedKey × α)) (k : NestedKey) : k ∈ (uq rs).map (·.1) ↔ k ∈ rs.map (·.1) := by
  have key : ∀ (rs acc : List (NestedKey × α)), k ∈ (rs.foldl uqPut acc).map (·.1) ↔ k ∈ acc.map (·.1) ∨ k ∈ rs.map (·.1) := by
    intro rs
    induction rs with
    | nil => intro acc; simp
    | cons r rs ih =>
      intro acc
      rw [List.foldl_cons, ih, List.map_cons, List.mem_cons]
      unfold uqPut
      split
      · rename_i hm
        constructor
        · rintro (z | z)
          · exact .inl z
          · exact .inr (.inr z)
        · rintro (z | z | z)
          · exact .inl z
          · exact .inl (z ▸ hm)
          · exact .inr z
      · rw [List.map_append, List.mem_append]
        simp only [List.map_cons, List.map_nil, List.mem_singleton]
        rw [or_assoc]
  rw [uq, key]
  simp
theorem leD_kd (a b : NestedKey) : leD (kd a) (kd b) = PySem.W.dataLe false pyOf a b := by
  show (!PySem.W.dataLt ((toPy (kd b)).getD .none) ((toPy (kd a)).getD .none)) = (!PySem.W.dataLt (pyOf b) (pyOf a))
  rw [toPy_kd, toPy_kd]; rfl
theorem sortKeys (ks : List NestedKey) : (ks.map kd).mergeSort leD = (ks.mergeSort (PySem.W.dataLe false pyOf)).map kd :=
  (List.map_mergeSort (f := kd) fun a _ b _ => (leD_kd a b).symm).symm
/-- the keys, and the data of them, of alike tuples -/
def okKeys (ks : List NestedKey) : Bool := okSort (ks.map pyOf) && decide (ks.length < 64)
def ssF (l : List D) : Option (List D) := (keyRows l).bind fun rs => if okKeys (rs.map (·.1)) then some ((uqD rs).mergeSort leD) else none
def dSS (f : EDen) : EDen := fun ρ m => (f ρ m).bind fun p => (lstV p.2 p.1).bind fun l => (ssF l).map fun r => (.dat (.lst r), p.2)
theorem de_sortSet {X : Cx} {e : Expr} {te : TE} {f : EDen} {p p2 pos2 pos : Pos} (hc : X.calm = true) (hu : X.A.units + 70 < cLine) (g1 : Gl X "sorted") (m1 : X.mg "sorted" = none) (g2 : Gl X "set") (m2 : X.mg "set" = none) (h : DE X e te f)
    (he2 : starEach [e] X.env = (false, eval e X.env) :: starEach [] X.env := by rfl) (hpl2 : (backTo pos2 (starEach [] X.env)).any (·.1) = false := by rfl)
    (he : starEach [.Call (.Name "set" p2) [e] [] pos2] X.env = (false, eval (.Call (.Name "set" p2) [e] [] pos2) X.env) :: starEach [] X.env := by rfl) (hpl : (backTo pos (starEach [] X.env)).any (·.1) = false := by rfl) :
    DE X (.Call (.Name "sorted" p) [.Call (.Name "set" p2) [e] [] pos2] [] pos) (tCB (rSortN X.K X.w) (tCons (tCB (rSetN X.K X.w) (tCons te tNil)) tNil)) (dSS f) :=
  ⟨pe_callB (call_sortN hc hu) g1 m1 bt_sorted (pa_cons (pe_callTy (call_setN hc hu) g2 m2 bt_set (pa_cons h.pe pa_nil he2) (by decide) (by decide) he2 hpl2) pa_nil he) (by decide) (by decide) he hpl, by
    intro σ ρ G F μ m H y m' Q W E h' q
    unfold dSS at h'
    cases e1 : f ρ m with
    | none => rw [e1] at h'; cases h'
    | some pr =>
    obtain ⟨z, ms⟩ := pr
    rw [e1] at h'
    simp only [Option.bind_some] at h'
    cases e2 : lstV ms z with
    | none => rw [e2] at h'; cases h'
    | some l =>
    rw [e2] at h'
    simp only [Option.bind_some] at h'
    unfold ssF at h'
    cases e3 : keyRows l with
    | none => rw [e3] at h'; cases h'
    | some rk =>
    rw [e3] at h'
    simp only [Option.bind_some] at h'
    split at h'
    · rename_i hok
      simp only [Option.map_some, Option.some.injEq, Prod.mk.injEq] at h'
      obtain ⟨rfl, rfl⟩ := h'
      refine h.dn σ ρ G F μ m H z ms _ W E e1 fun v G1 μ1 H1 W1 g1 r1 => ?_
      obtain ⟨a, vs, rfl, hsq, ra⟩ := lstV_ok W1 r1 e2
      unfold keyRows at e3
      split at e3
      · rename_i hlim
        rw [Bool.and_eq_true] at hlim
        cases e4 : nkAll l with
        | none => rw [e4] at e3; cases e3
        | some ks =>
        rw [e4] at e3
        simp only [Option.bind_some] at e3
        split at e3
        · rename_i hdep
          cases e3
          obtain ⟨rs, f1, f2, f3, f4, f5⟩ := mkRows l vs ks ra e4 hlim.1
          obtain ⟨hl, hin⟩ := nk_kdAll l ks e4
          have hinn : ∀ k ∈ ks, inn k = true := by
            have key : ∀ ks : List NestedKey, innAll ks = true → ∀ k ∈ ks, inn k = true := by
              intro ks
              induction ks with
              | nil => intro _ k hk; cases hk
              | cons k ks ih =>
                intro h k' hk'
                unfold innAll at h
                rw [Bool.and_eq_true] at h
                rcases List.mem_cons.mp hk' with z | z
                · rw [z]; exact h.1
                · exact ih h.2 _ z
            exact key ks hin
          have kdAll_map : ∀ ks : List NestedKey, kdAll ks = ks.map kd := by
            intro ks
            induction ks with
            | nil => rfl
            | cons k ks ih => unfold kdAll; rw [ih]; rfl
          have hrow : ∀ r ∈ rs, r.2.2 = kd r.1 := by
            have e5 : ks.zip l = rs.map fun r => (r.1, r.2.2) := f2
            rw [hl, kdAll_map] at e5
            intro r hr
            have hm : (r.1, r.2.2) ∈ ks.zip (ks.map kd) := by rw [e5]; exact List.mem_map.mpr ⟨r, hr, rfl⟩
            have key : ∀ (ks : List NestedKey) (x : NestedKey × D), x ∈ ks.zip (ks.map kd) → x.2 = kd x.1 := by
              intro ks
              induction ks with
              | nil => intro x h; cases h
              | cons k ks ih =>
                intro x h
                rw [List.map_cons, List.zip_cons_cons] at h
                rcases List.mem_cons.mp h with z | z
                · rw [z]
                · exact ih x z
            exact key ks _ hm
          have hkz : (ks.zip l).map (·.1) = ks := by
            rw [f2, List.map_map, f4]
            exact List.map_congr_left fun _ _ => rfl
          rw [hkz] at hok
          unfold okKeys at hok
          rw [Bool.and_eq_true] at hok
          obtain ⟨al, so, dp, _⟩ := okSort_ok hok.1
          have hfew : ks.length < 64 := of_decide_eq_true hok.2
          have hdk : ∀ k ∈ ks, k.depth ≤ 8 := fun k hk => of_decide_eq_true (List.all_eq_true.mp hdep k hk)
          let KS : List ARow := rs.map fun r => (r.2.1, r.1)
          have KSks : KS.map (·.2) = ks := by rw [f4, List.map_map]; exact List.map_congr_left fun _ _ => rfl
          have KSrow : ∀ p ∈ KS, Rp X.K G1 (.ref p.1) (kd p.2) ∧ NkV X.K G1 (.ref p.1) p.2 := fun p hp => by
            obtain ⟨r, hr, rfl⟩ := List.mem_map.mp hp
            obtain ⟨q1, q2⟩ := f5 r hr
            rw [hrow r hr] at q1
            exact ⟨q1, q2⟩
          have KSin : ∀ p ∈ KS, p.2 ∈ ks := fun p hp => by rw [← KSks]; exact List.mem_map.mpr ⟨p, hp, rfl⟩
          refine ⟨a, KS, rfl, ?_, fun p hp => ⟨NkV.up W1.g _ _ (KSrow p hp).2, hdk _ (KSin p hp), hinn _ (KSin p hp)⟩, by rw [← List.length_map (f := (·.2)), KSks]; exact hfew, fun pa L hpa hL1 hL2 hL3 => ?_⟩
          · rw [List.map_map]
            rw [f1] at hsq
            exact hsq
          · have sub2 : Sub G1 (upd H1 pa (SetNO X.w pa L)) := fun b o hb => by
              rw [upd_ne (ne_of_none hb (W1.new_g hpa))]; exact W1.g b o hb
            refine ⟨pa, L, rfl, upd_same, fun p hp => ⟨NkV.up sub2 _ _ (KSrow p (hL1 p hp)).2, hdk _ (KSin p (hL1 p hp)), hinn _ (KSin p (hL1 p hp))⟩, fun p hp => Dp.up sub2 _ _ (toPy_dp _ _ _ (KSrow p (hL1 p hp)).1 (toPy_kd _)), fun d hd d' hd' => ?_, ?_, fun p hp => ?_, fun L' pl hL' hpl => ?_⟩
            · obtain ⟨p, hp, rfl⟩ := List.mem_map.mp hd
              obtain ⟨p', hp', rfl⟩ := List.mem_map.mp hd'
              exact al _ (List.mem_map.mpr ⟨_, KSin p (hL1 p hp), rfl⟩) _ (List.mem_map.mpr ⟨_, KSin p' (hL1 p' hp'), rfl⟩)
            · rcases so with z | z
              · refine .inl fun d hd => ?_
                obtain ⟨p, hp, rfl⟩ := List.mem_map.mp hd
                exact z _ (List.mem_map.mpr ⟨_, KSin p (hL1 p hp), rfl⟩)
              · refine .inr fun d hd => ?_
                obtain ⟨p, hp, rfl⟩ := List.mem_map.mp hd
                exact z _ (List.mem_map.mpr ⟨_, KSin p (hL1 p hp), rfl⟩)
            · exact dp _ (List.mem_map.mpr ⟨_, KSin p (hL1 p hp), rfl⟩)
            · have W2 : Wd X.K G1 F μ1 ms (upd H1 pa (SetNO X.w pa L)) := by
                refine ⟨sub2, fun a o ha => ?_, W1.gf, W1.nd, W1.gm, W1.fm, W1.len, fun i a x h1 h2 => ?_⟩
                · rw [upd_ne (ne_of_none ha (W1.new_f hpa))]; exact W1.f a o ha
                · have ne : a ≠ pa := fun e => W1.new_mu hpa (e ▸ List.mem_of_getElem? h1)
                  have qq := W1.ob i a x h1 h2
                  cases x with
                  | lst es => obtain ⟨ws, e', r'⟩ := qq; exact ⟨ws, by rw [upd_ne ne]; exact e', r'⟩
                  | gone => obtain ⟨u, e'⟩ := qq; exact ⟨u, by rw [upd_ne ne]; exact e'⟩
              have eu : uqD (ks.zip l) = ((uq (ks.zip l)).map (·.1)).map kd := by
                unfold uqD
                rw [f2, show (uq (rs.map fun r => (r.1, r.2.2))) = (uq rs).map fun r => (r.1, r.2.2) from uq_map Prod.snd rs, List.map_map, List.map_map, List.map_map]
                refine List.map_congr_left fun r hr => ?_
                rcases uq_mem rs [] r hr with zz | zz
                · cases zz
                · exact hrow r zz
              have pk : (L'.map (·.2)).Perm ((uq (ks.zip l)).map (·.1)) := by
                refine (hL'.map _).trans ((List.perm_ext_iff_of_nodup hL3 (uq_nodup _)).mpr fun k => ?_)
                rw [uq_keys, hkz]
                constructor
                · intro hk
                  obtain ⟨p, hp, rfl⟩ := List.mem_map.mp hk
                  exact KSin p (hL1 p hp)
                · intro hk
                  rw [← KSks] at hk
                  obtain ⟨p, hp, rfl⟩ := List.mem_map.mp hk
                  exact hL2 p hp
              have inL' : ∀ p ∈ L', p ∈ KS := fun p hp => hL1 p (hL'.mem_iff.mp hp)
              have e7 : (uqD (ks.zip l)).mergeSort leD = (L'.mergeSort (PySem.W.dataLe false fun p => pyOf p.2)).map fun p => kd p.2 := by
                rw [eu, sortKeys, ← pairwise_key pk (fun k hk => by
                  obtain ⟨p, hp, rfl⟩ := List.mem_map.mp hk
                  exact hinn _ (KSin p (inL' p hp))) (fun d hd d' hd' => by
                  obtain ⟨k, hk, rfl⟩ := List.mem_map.mp hd
                  obtain ⟨k', hk', rfl⟩ := List.mem_map.mp hd'
                  obtain ⟨p, hp, rfl⟩ := List.mem_map.mp hk
                  obtain ⟨p', hp', rfl⟩ := List.mem_map.mp hk'
                  exact al _ (List.mem_map.mpr ⟨_, KSin p (inL' p hp), rfl⟩) _ (List.mem_map.mpr ⟨_, KSin p' (inL' p' hp'), rfl⟩)),
                  show (L'.map (·.2)).mergeSort (PySem.W.dataLe false pyOf) = (L'.mergeSort (PySem.W.dataLe false fun p => pyOf p.2)).map (·.2) from (List.map_mergeSort (f := fun p : ARow => p.2) fun _ _ _ _ => rfl).symm, List.map_map]
                rfl
              rw [e7] at q
              exact Aft.newL (Aft.of q g1) W2 hpl (rpAll_map fun p hp => (KSrow p (inL' p (List.mem_mergeSort.mp hp))).1)
        · cases e3
      · cases e3
    · cases h'⟩
end Dn
set_option Elab.async false
set_option linter.all false
set_option maxRecDepth 100000
namespace Dn
open PySem PySem.Spec PyProof.Rows L2

/-! ### == and != of lists; of another length they may hold anything -/
section
variable {X : Cx}
def rLen (K : PySem.W.Frag) (r : Bool) : R2 := fun x y H Q => ∃ a b xs ys, x = .ref a ∧ y = .ref b ∧ SqL K H a xs ∧ SqL K H b ys ∧ xs.length ≠ ys.length ∧ Q (.bl r) H
theorem op_eqL (hu : X.A.units + 64 < cLine) : OpR X (compareOp .Eq) (rLen X.K false) := by
  intro pins s σ H x y v u Q I rx ry h
  obtain ⟨a, b, xs, ys, rfl, rfl, ha, hb, hne, q⟩ := h
  obtain ⟨ia, rva, pa, _⟩ := I.list ha
  obtain ⟨ib, rvb, pb, _⟩ := I.list hb
  cases rx
  cases ry
  have l1 := rva.length
  have l2 := rvb.length
  exact SeqAt.RcAt.lists_lengths pa.isList pb.isList (by rw [bne_iff_ne, List.size_toArray, List.size_toArray]; omega) (by omega) X.prog X.w _ _ ⟨.bl false, H, I, rfl, q⟩
theorem op_neL (hu : X.A.units + 64 < cLine) : OpR X (compareOp .NotEq) (rLen X.K true) := by
  intro pins s σ H x y v u Q I rx ry h
  obtain ⟨a, b, xs, ys, rfl, rfl, ha, hb, hne, q⟩ := h
  obtain ⟨ia, rva, pa, _⟩ := I.list ha
  obtain ⟨ib, rvb, pb, _⟩ := I.list hb
  cases rx
  cases ry
  have l1 := rva.length
  have l2 := rvb.length
  exact SeqAt.RcNeAt.lists_lengths pa.isList pb.isList (by rw [bne_iff_ne, List.size_toArray, List.size_toArray]; omega) (by omega) X.prog X.w _ _ ⟨.bl true, H, I, rfl, q⟩
/-- ==: lists of other lengths, else data -/
def eqX (x y : D) : Option Bool := match x, y with
  | .lst l, .lst l' => if l.length = l'.length then eqD x y else some false
  | _, _ => eqD x y
theorem den2_or {K : PySem.W.Frag} {r r' : R2} {f g h : D → D → Option D} (h1 : Den2 K r (lift2 f)) (h2 : Den2 K r' (lift2 g)) (e : ∀ a b, h a b = f a b ∨ h a b = g a b) : Den2 K (fun x y H Q => r x y H Q ∨ r' x y H Q) (lift2 h) := by
  intro G F μ m H v u x y z m' Q W rx ry e' q
  cases x with
  | obj i => cases e'
  | dat a =>
  cases y with
  | obj i => cases e'
  | dat b =>
  rcases e a b with k | k
  · refine .inl (h1 G F μ m H v u _ _ z m' Q W rx ry ?_ q)
    rw [← e']
    unfold lift2
    simp only [k]
  · refine .inr (h2 G F μ m H v u _ _ z m' Q W rx ry ?_ q)
    rw [← e']
    unfold lift2
    simp only [k]
def lenD (r : Bool) (x y : D) : Option D := match x, y with
  | .lst l, .lst l' => if l.length = l'.length then none else some (.bl r)
  | _, _ => none
theorem den_lenD {K : PySem.W.Frag} (r : Bool) : Den2 K (rLen K r) (lift2 (lenD r)) := den2 fun G F μ m H v u a b d Q W ra rb e q => by
  unfold lenD at e
  split at e
  · split at e
    · cases e
    · rename_i l l' hne
      cases e
      cases ra with
      | @lst p xs _ hp h1 =>
      cases rb with
      | @lst p' ys _ hp' h2 =>
      exact ⟨p, p', xs, ys, rfl, rfl, SqL.of (W.g _ _ hp), SqL.of (W.g _ _ hp'), by rw [h1.length, h2.length]; exact hne, q.dat W (.bl _)⟩
  · cases e
def eqQ : Vl → Vl → Sto → Option (Vl × Sto) := lift2 fun x y => (eqX x y).map .bl
def neQ : Vl → Vl → Sto → Option (Vl × Sto) := lift2 fun x y => (eqX x y).map fun b => .bl (!b)
theorem eqX_or (f : Bool → D) (a b : D) : (eqX a b).map f = (eqD a b).map f ∨ (eqX a b).map f = (lenD false a b).map fun _ => f false := by
  unfold eqX lenD
  split
  · split
    · exact .inl rfl
    · exact .inr rfl
  · exact .inl rfl
theorem cmd_eqX (hu : X.A.units + 64 < cLine) : CmpD X .Eq (fun x y H Q => rEqD X.K x y H Q ∨ rLen X.K false x y H Q) eqQ :=
  ⟨(cmd_eq hu).o.or (op_eqL hu), den2_or (h := fun x y => (eqX x y).map .bl) (cmd_eq hu).d (den_lenD false) fun a b => by
    rcases eqX_or D.bl a b with k | k
    · exact .inl k
    · refine .inr (k.trans ?_)
      unfold lenD
      split
      · split <;> rfl
      · rfl⟩
theorem cmd_neX (hu : X.A.units + 64 < cLine) : CmpD X .NotEq (fun x y H Q => rNeD X.K x y H Q ∨ rLen X.K true x y H Q) neQ :=
  ⟨(cmd_ne hu).o.or (op_neL hu), den2_or (h := fun x y => (eqX x y).map fun b => .bl (!b)) (cmd_ne hu).d (den_lenD true) fun a b => by
    rcases eqX_or (fun b => D.bl (!b)) a b with k | k
    · exact .inl k
    · refine .inr (k.trans ?_)
      unfold lenD
      split
      · split <;> rfl
      · rfl⟩

/-! ### {} and dead code -/
theorem den_dct {K : PySem.W.Frag} : DenE K tDNewK (dC (.dct [] [])) := by
  intro σ ρ G F μ m H x m' Q W E h q a ha
  cases h
  refine q _ _ μ _ (W.new ha) (Gr.new (W.new_g ha)) (.dat ?_)
  exact Rp.dct (kvs := []) upd_same .nil
theorem de_dct {pos : Pos} : DE X (.Dict [] [] pos) tDNewK (dC (.dct [] [])) := ⟨pe_dnewK, den_dct⟩
def dDead : SDen := fun _ _ => none
theorem ds_dead {st : Stmt} : DS X st tNever dDead := ⟨⟨fun pins s σ H D I h => h.elim⟩, by
  intro σ ρ G F μ m H fl ρ' m' D W E h q
  cases h⟩
theorem dss_dead {st : List Stmt} : DSs X st tNever dDead := ⟨⟨fun pins s σ H D I h => h.elim⟩, by
  intro σ ρ G F μ m H fl ρ' m' D W E h q
  cases h⟩
end

/-! ### the law's def: it is run by the caller, whose guards are none -/
theorem CR.ret {outer : List Env} {P : Program} {w : World} {H : Hp} {s s' : Shared} {Q : VK} {E : XK} {r : Result} (h : CR CX0 outer P w H s Q E r s') : ∃ u, r = .ok (.ret u) ∧ CE outer P w H s Q u s' := by
  cases r with
  | error e => exact False.elim h
  | ok fl =>
    cases fl with
    | ret u => exact ⟨u, rfl, h⟩
    | next => exact False.elim h
    | brk => exact False.elim h
    | cont => exact False.elim h
section
variable {P : Program} {w : World} {K : PySem.W.Frag} {mg : Str → Option Value} {base : Heap}
/-- a def's call, run once, at this A -/
def RunAt (P : Program) (w : World) (K : PySem.W.Frag) (mg : Str → Option Value) (base : Heap) (A : Around) (k : Nat) (f : Addr) (fd : FuncData) (ps : List Str) (sp : Sp) : Prop :=
  ∀ (s : Shared) (H : Hp) (us : List Value) (vs : List V) (Q : VK) (E : XK), Room k A → Env0 P w K mg base A [] s H → BindsTo s fd ⟨us, []⟩ (ps.zip us) → Vals vs us → sp vs H Q E →
    codeAny (model P w) A (.call (.ref f) ⟨us, []⟩) (CR CX0 [] P w H s Q E) s
theorem Fun.runAt {x qual : Str} {st : Stmt} {f : Addr} {fd : FuncData} {N ps : List Str} {k : Nat} {sp : Sp} {A : Around} (F : Fun K x qual st f fd) (S : FnScope N ps (defScope st)) (len : ∀ vs H Q E, sp vs H Q E → vs.length = ps.length)
    (hbody : ∀ (cdv : Value) (s : Shared) (H : Hp) (vs : List V) (Q : VK) (E : XK), Room k (A.deeper (envOfC qual (defScope st) s.heap.objs.size f cdv)) → sp vs H Q E →
      ∃ t, PSs (cxOf CX0 P w K mg base N qual (defScope st) f cdv A [] s H E).nox (defBody st) t ∧ t { nx := fun _ H' => Q .non H', rt := Q } (start N vs) H) : RunAt P w K mg base A (k + 1) f fd ps sp := by
  obtain ⟨oc, od, kV, doc, pm, an, cdv, ct, osl, rfl, lk, hcd⟩ := F.ex
  intro s H us vs Q E hr e0 hb r hsp
  have hl := len _ _ _ _ hsp
  have KX : K.In s.heap := e0.mod.kin.keeps fun b o e => (e0.bs b o e).1
  have hkind : ∀ y ∈ ps.zip us, (defScope st).names.lookup y.1 = some .local ∨ ((defScope st).names.lookup y.1 = some .cell ∧ ((cellsFrom (s.heap.objs.size + 1) (defScope st).names []).lookup y.1).isSome = true) := fun ⟨n, v⟩ hy => by
    rcases S.par n (List.of_mem_zip hy).1 with q | q
    · exact .inl q
    · exact .inr ⟨q, PySem.W.cellsFrom_some _ _ _ (.inl q)⟩
  refine codeAny_call_function hr.depth (KX _ _ lk) rfl S.co S.gen rfl (PySem.W.codeRec_of KX hcd) (hb _ _ _ _ ?_)
  refine wpAny_newFunctionEnv_cells S.kind hkind fun env he s1 x => ?_
  subst he
  refine ⟨(e0.mod.nolimit.keeps fun b o e => (e0.bs b o e).1).keeps x.toInCall.keep, codeAny_func ?_⟩
  obtain ⟨t, ht, hq⟩ := hbody cdv s H vs Q E (hr.deeper _) hsp
  have I := inv_start (CX := CX0) (E := E) (qual := qual) (f := f) (cd := cdv) S hr.hd e0 hl r x
  refine wpAny_mono (ht.nox.run [] s1 (start N vs) H _ I hq) (fun fl s' hs => ?_) fun e s' hs => hs
  cases fl with
  | ret u =>
    obtain ⟨v, σ', H', J, rv, q⟩ := hs
    exact ⟨v, H', J.os, J.bare, J.base, J.hok, rv, q⟩
  | next =>
    obtain ⟨σ', H', J, q⟩ := hs
    exact ⟨.non, H', J.os, J.bare, J.base, J.hok, rfl, q⟩
  | brk =>
    obtain ⟨_, _, _, q⟩ := hs
    exact False.elim q
  | cont =>
    obtain ⟨_, _, _, q⟩ := hs
    exact False.elim q
end
/-- the heap of the script alone -/
def scrH (K : PySem.W.Frag) (a : Addr) (o : Obj) (ns : List Int) : Hp := fun b => if b = a ∧ K.lookup a = none then some (.frz o (.lst (ns.map V.int))) else none
theorem call_law {P : Program} {w : World} {K : PySem.W.Frag} {mg mb : Str → Option Value} {k : Nat} {fa a : Addr} {fd : FuncData} {x : Str} {sp : Sp} {s₁ : Shared} {vs : List Value} {ns : List Int}
    (KX : K.In s₁.heap) (hns : s₁.heap.Ns mainGlobals mg) (hb : s₁.heap.Ns builtinsNs mb) (hbb : ∀ x : Str, x ≠ "__name__" → mb x = bootBuiltins x) (hlim : s₁.heap.NoLimit) (hg : s₁.gens = #[])
    (ha : s₁.heap.get? a = some { cls := .type "list", data := .seq vs.toArray }) (hi : IntsAre vs ns) (hl : ns.length ≤ sizeLine) (hr : Room k callerA)
    (F : ∀ base : Heap, K.In base → base.Ns mainGlobals mg → RunAt P w K mg base callerA k fa fd [x] sp) (hbind : ∀ (s : Shared) (u : Value), BindsTo s fd ⟨[u], []⟩ [(x, u)])
    (hsp : ∀ H : Hp, Only H → SqL K H a (ns.map V.int) → sp [.ref a] H (fun v _ => v = .bl true) fun _ _ _ => False) :
    codeAny (model P w) callerA (.call (.ref fa) ⟨[.ref a], []⟩) (fun r s' => r = .ok (.ret (.bool true)) ∧ OldK s₁.heap s'.heap ∧ s'.os = s₁.os ∧ AllBare s'.gens) s₁ := by
  have rv := vals_ints hi
  have lenV := hi.length
  generalize hH : scrH K a { cls := .type "list", data := .seq vs.toArray } ns = H
  have at_a : ∀ b u, H b = some u → b = a ∧ K.lookup a = none ∧ u = .frz { cls := .type "list", data := .seq vs.toArray } (.lst (ns.map V.int)) := fun b u e => by
    rw [← hH] at e
    unfold scrH at e
    split at e
    · rename_i h
      exact ⟨h.1, h.2, (Option.some.inj e).symm⟩
    · cases e
  have hO : Only H := fun b => by
    cases e : H b with
    | none => exact .inl rfl
    | some u => exact .inr ⟨_, _, congrArg some (at_a b u e).2.2⟩
  have hS : SqL K H a (ns.map V.int) := by
    cases hk : K.lookup a with
    | some o =>
      have e := KX a o hk
      rw [ha] at e
      cases e
      exact .inr ⟨_, vs.toArray, _, hk, rfl, rfl, rfl, by rw [List.size_toArray, lenV]; exact hl, by simpa using rv⟩
    | none =>
      refine .inl (.inr ⟨{ cls := .type "list", data := .seq vs.toArray }, ?_⟩)
      rw [← hH]
      exact if_pos ⟨rfl, hk⟩
  have hok : HOk P w H s₁.heap := fun b u e => by
    obtain ⟨rfl, _, rfl⟩ := at_a b u e
    exact ⟨ha, by rw [List.length_map]; exact hl, vs, _, rv, ha⟩
  have free : ∀ {b : Addr} {o : Obj}, s₁.heap.get? b = some o → (∀ es ep, o.data = .dict es ep → H b = none) := fun {b o} e es ep d => by
    cases q : H b with
    | none => rfl
    | some u =>
      obtain ⟨rfl, _, _⟩ := at_a b u q
      rw [ha] at e
      cases e
      cases d
  have nsK : ∀ {b : Addr} {m : Str → Option Value}, s₁.heap.Ns b m → (hidT s₁.heap H).Ns b m := fun {b m} ⟨o, es, ep, e, d, r⟩ => ⟨o, es, ep, hidT_get e (free e es ep d), d, r⟩
  have hKb : K.In (hidT s₁.heap H) := fun b o e => hidT_get (KX b o e) (by
    cases q : H b with
    | none => rfl
    | some u =>
      obtain ⟨rfl, h2, _⟩ := at_a b u q
      rw [h2] at e; cases e)
  have hM : Mod K mg (hidT s₁.heap H) := ⟨hKb, nsK hns, ⟨mb, nsK hb, hbb⟩, let ⟨mc, h1, h2⟩ := hlim; ⟨mc, nsK h1, h2⟩⟩
  have e0 : Env0 P w K mg (hidT s₁.heap H) callerA [] s₁ H := ⟨rfl, hM, fun b o e => of_hidT e, Nat.le_of_eq (hidT_size _ _), trivial, fun b hb => absurd (show b ∈ ([] : List Addr) from hb) (by simp), hok, .of_eq hg⟩
  refine codeAny_mono (F _ hKb (nsK hns) s₁ H [.ref a] [.ref a] _ _ hr e0 (hbind s₁ (.ref a)) (.cons rfl .nil) (hsp H hO hS)) fun r s' h => ?_
  obtain ⟨u, rfl, v, H', os, bare, un, hok', r', q⟩ := CR.ret h
  have q' : v = .bl true := q
  subst q'
  obtain rfl : u = Value.bool true := r'
  refine ⟨rfl, OldK.of_keep fun b o e => ?_, os, bare⟩
  cases q : H b with
  | none => exact un.keep b o e q (by intro z; exact absurd (show b ∈ ([] : List Addr) from z) (by simp)) (by simp)
  | some u =>
    obtain ⟨_, _, rfl⟩ := at_a b u q
    obtain ⟨e2, _⟩ := hok' b _ (un.frzs b _ _ q)
    obtain ⟨e1, _⟩ := hok b _ q
    rw [e] at e1
    cases e1
    exact e2
theorem walk_law {l : PySem.W.OpenLaw} {n k : Nat} {q : Program} {loose : List Str} {XP : (Str → Option Value) → Heap → Prop} {YP : World → Heap → Prop} {d : DefRec} {K : Params → PySem.W.Frag} {sp : PySem.W.Frag → Sp} {x : Str}
    (hn : l.most = some n) (hn2 : n ≤ sizeLine) (hdf : d.params.defaults = []) (hr : Room k callerA)
    (hY : ∀ (w : World) (h : Heap), YP w h → (K w.params).In h)
    (F : ∀ (w : World) (mg : Str → Option Value) (fa : Addr) (h : Heap), (K w.params).In h → h.Ns mainGlobals mg → mg d.name = some (.ref fa) →
      ∃ fd : FuncData, (∀ (s : Shared) (u : Value), BindsTo s fd ⟨[u], []⟩ [(x, u)]) ∧
        ∀ base : Heap, (K w.params).In base → base.Ns mainGlobals mg → RunAt l.prog w (K w.params) mg base callerA k fa fd [x] (sp (K w.params)))
    (hsp : ∀ (K : PySem.W.Frag) (H : Hp) (a : Addr) (ns : List Int), ns.length ≤ n → Only H → SqL K H a (ns.map V.int) → sp K [.ref a] H (fun v _ => v = .bl true) fun _ _ _ => False) :
    PySem.W.WalkO q loose XP YP l.row.toRowW d [] (fun f vs => PySem.call f vs) := by
  refine Att.attach_call hn hdf fun w s₀ s₁ mg mb fa o pm cd doc a vs ns G Y ho hd hcd hmg hobj hints hlen hg => ?_
  have KX := hY w _ Y
  obtain ⟨fd, hb, hF⟩ := F w mg fa _ KX G.T.g hmg
  exact call_law KX G.T.g G.T.b G.T.builtins G.T.nolimit hg hobj hints (Nat.le_trans hlen hn2) hr hF hb fun H hO hS => hsp _ H a ns hlen hO hS
/-- the law's promise from its denotation: it returns True at every script -/
theorem law_sp {K : PySem.W.Frag} {g : FDen} {H : Hp} {a : Addr} {ns : List Int} (hO : Only H) (hS : SqL K H a (ns.map V.int)) (h : ∃ m', g [.dat (.frl (ns.map .int))] [] = some (.dat (.bl true), m')) : spD K 1 g [.ref a] H (fun v _ => v = .bl true) fun _ _ _ => False := by
  obtain ⟨m', e⟩ := h
  have ra : ∀ ns : List Int, RpAll K H (ns.map V.int) (ns.map D.int) := by
    intro ns
    induction ns with
    | nil => exact .nil
    | cons i ns ih => exact .cons (.int i) ih
  refine ⟨rfl, H, fun _ => none, [], [], _, _, m', ⟨Sub.refl H, fun _ _ h => (by cases h), fun _ _ => rfl, List.nodup_nil, fun _ h => (by cases h), fun _ h => (by cases h), rfl, fun i a x h => (by simp at h)⟩, .cons (.dat (.frl hS (ra ns))) .nil, e, ?_⟩
  intro v G' μ' H' W' g' r'
  cases r' with
  | dat r' => cases r'; rfl
end Dn
set_option Elab.async false
set_option linter.all false
namespace Dn
open PySem PySem.Spec PyProof.Rows L2
abbrev qLt : Vl → Vl → Sto → Option (Vl × Sto) := lift2 (cmpI fun i j => decide (i < j))
abbrev qLe : Vl → Vl → Sto → Option (Vl × Sto) := lift2 (cmpI fun i j => decide (i ≤ j))
abbrev qGt : Vl → Vl → Sto → Option (Vl × Sto) := lift2 (cmpI fun i j => decide (j < i))
abbrev qGe : Vl → Vl → Sto → Option (Vl × Sto) := lift2 (cmpI fun i j => decide (j ≤ i))
abbrev qIn : Vl → Vl → Sto → Option (Vl × Sto) := lift2 (inD false)
abbrev qNotIn : Vl → Vl → Sto → Option (Vl × Sto) := lift2 (inD true)
abbrev qIs : Vl → Vl → Sto → Option (Vl × Sto) := lift2 isB
abbrev qAdd : Vl → Vl → Sto → Option (Vl × Sto) := lift2 addD
abbrev qSub : Vl → Vl → Sto → Option (Vl × Sto) := lift2 subD
abbrev qMul : Vl → Vl → Sto → Option (Vl × Sto) := lift2 mulD
abbrev qDiv : Vl → Vl → Sto → Option (Vl × Sto) := lift2 divD
abbrev qMod : Vl → Vl → Sto → Option (Vl × Sto) := lift2 modD
abbrev qPow : Vl → Vl → Sto → Option (Vl × Sto) := lift2 powD
abbrev qNeg : Vl → Sto → Option (Vl × Sto) := lift1 negD

/-! ### the rules with K by name (for the inside of a comprehension) -/
section
variable {X : Cx} {e a b : Expr} {es : List Expr} {te ta tb : TE} {f fa fb : EDen} {pos : Pos}
theorem ixdx (K : PySem.W.Frag) (hK : X.K = K := by rfl) : IxD X (rIx K) ixV := hK ▸ ixd
theorem sldx (K : PySem.W.Frag) (hK : X.K = K := by rfl) : SlD X (rSlAll K) slV := hK ▸ sld
theorem opd_addx (K : PySem.W.Frag) (hK : X.K = K := by rfl) : OpD X .Add (rAddAll K) (lift2 addD) := hK ▸ opd_add
def rEqX (K : PySem.W.Frag) : R2 := fun x y H Q => rEqD K x y H Q ∨ rLen K false x y H Q
def rNeX (K : PySem.W.Frag) : R2 := fun x y H Q => rNeD K x y H Q ∨ rLen K true x y H Q
theorem cmd_eqx (K : PySem.W.Frag) (hu : X.A.units + 64 < cLine) (hK : X.K = K := by rfl) : CmpD X .Eq (rEqX K) eqQ := hK ▸ cmd_eqX hu
theorem cmd_nex (K : PySem.W.Frag) (hu : X.A.units + 64 < cLine) (hK : X.K = K := by rfl) : CmpD X .NotEq (rNeX K) neQ := hK ▸ cmd_neX hu
theorem cmd_inx (K : PySem.W.Frag) (hK : X.K = K := by rfl) : CmpD X .In (rIn K false) (lift2 (inD false)) := hK ▸ cmd_in
theorem cmd_notInx (K : PySem.W.Frag) (hK : X.K = K := by rfl) : CmpD X .NotIn (rIn K true) (lift2 (inD true)) := hK ▸ cmd_notIn
def rLenX (K : PySem.W.Frag) : List V → Hp → VK → Prop := fun xs H Q => ∃ x n, xs = [x] ∧ LenV K x H n ∧ Q (.int n) H
theorem cad_lenx (K : PySem.W.Frag) (hK : X.K = K := by rfl) : CalD X (.builtin "len") (rLenX K) lenF := hK ▸ cad_len
theorem cad_allx (K : PySem.W.Frag) (hc : X.calm = true := by rfl) (hK : X.K = K := by rfl) : CalD X (.builtin "all") (rAll K) allF := hK ▸ cad_all hc
theorem cad_anyx (K : PySem.W.Frag) (hc : X.calm = true := by rfl) (hK : X.K = K := by rfl) : CalD X (.builtin "any") (rAny K) anyF := hK ▸ cad_any hc
def rListX (K : PySem.W.Frag) : List V → Hp → VK → Prop := fun xs H Q => ∃ p ys, xs = [.ref p] ∧ (SqL K H p ys ∨ SqT K H p ys) ∧ ∀ l, H l = none → Q (.ref l) (upd H l (.lst ys))
theorem cad_listx (K : PySem.W.Frag) (hK : X.K = K := by rfl) : CalD X (.type "list") (rListX K) listF := hK ▸ cad_list
def rTupX (K : PySem.W.Frag) : List V → Hp → VK → Prop := fun xs H Q => ∃ p ys, xs = [.ref p] ∧ ((SqL K H p ys ∧ ∀ l, H l = none → Q (.ref l) (upd H l (.tup ys))) ∨ (SqT K H p ys ∧ Q (.ref p) H))
theorem cad_tupx (K : PySem.W.Frag) (hK : X.K = K := by rfl) : CalD X (.type "tuple") (rTupX K) tupF := hK ▸ cad_tup
def rIsiX (K : PySem.W.Frag) : List V → Hp → VK → Prop := fun xs H Q => rIsi K xs H Q ∨ rIsiS K xs H Q
theorem cad_isix (K : PySem.W.Frag) (hK : X.K = K := by rfl) : CalD X (.builtin "isinstance") (rIsiX K) isiF := hK ▸ cad_isi
theorem cad_reprx (K : PySem.W.Frag) (hg : X.A.guards = some []) (hu : X.A.units + 70 < cLine) (hK : X.K = K := by rfl) : CalD X (.builtin "repr") (rReprD K) reprG := hK ▸ cad_repr hg hu
theorem cad_sortedx (K : PySem.W.Frag) (hu : X.A.units + 70 < cLine) (hK : X.K = K := by rfl) : CalD X (.builtin "sorted") (rSortD K) sortF := hK ▸ cad_sorted hu
theorem de_revx (K : PySem.W.Frag) {k : Nat} {p1 p2 p3 : Pos} (he : DE X e te f) (hK : X.K = K := by rfl) : DE X (.Subscript e (.Slice none none (some (.UnaryOp .USub (.Constant (.int 1) k p1) p2)) p3) pos) (tRevL K te) (dRev f) := hK ▸ de_rev he
theorem di_listx (K : PySem.W.Frag) {tg l : Expr} {tl : TE} (h : DE X l tl f) (hK : X.K = K := by rfl) : DI X tg l (iList K tl) (iL f) := hK ▸ di_list h
def iSeqX (K : PySem.W.Frag) (tl : TE) : TI := fun σ H R => tl σ H fun x H1 => (∃ a, x = .ref a ∧ (∃ xs, SqL K H1 a xs) ∧ R (Itl K a) H1) ∨ ∃ a, x = .ref a ∧ (∃ xs, SqT K H1 a xs) ∧ R (Itt K a) H1
theorem di_seqx (K : PySem.W.Frag) {tg l : Expr} {tl : TE} (h : DE X l tl f) (hK : X.K = K := by rfl) : DI X tg l (iSeqX K tl) (iSeq f) := hK ▸ di_seq h
theorem di_zipx (K : PySem.W.Frag) {p tpos : Pos} {elts : List Expr} {kk : Nat} (hg : Gl X "zip") (hm : X.mg "zip" = none) (ha : DE X a ta fa) (hb : DE X b tb fb) (hK : X.K = K := by rfl) (hs1 : starEach [b] X.env = (false, eval b X.env) :: starEach [] X.env := by rfl)
    (hs : starEach [a, b] X.env = (false, eval a X.env) :: starEach [b] X.env := by rfl) (hpl : (backTo pos (starEach [b] X.env)).any (·.1) = false := by rfl) :
    DI X (.Tuple elts kk tpos) (.Call (.Name "zip" p) [a, b] [] pos) (iZipM K (tCons ta (tCons tb tNil))) (iZip fa fb) := hK ▸ di_zip hg hm ha hb hs1 hs hpl
theorem dg_tupx (K : PySem.W.Frag) {k : Nat} {t : TGs} {gs : GsDen} {is : List Nat} {n : Nat} (hc : X.calm = true) (h : DGs X es t gs is) (hK : X.K = K := by rfl) (hn : (assignEach es X.env).length = n := by rfl) (hst : (assignEach es X.env).findIdx? (·.1) = none := by rfl) :
    DG X (.Tuple es k pos) (gTup K n t) (gTp n gs) is := hK ▸ dg_tup hc h hn hst
theorem de_callx {P : Program} {w : World} {K : PySem.W.Frag} {mg : Str → Option Value} {base : Heap} {x : Str} {p : Pos} {ps : List Str} {g : FDen} {k : Nat} {t : TA} {fa : ADen} (F : FnD P w K mg base x ps g k) (hr : Room k X.A) (hg : Gl X x) (ha : DA X (e :: es) t fa) (hl : ∀ ρ m p, fa ρ m = some p → p.1.length = ps.length)
    (h1 : X.prog = P := by rfl) (h2 : X.w = w := by rfl) (h3 : X.K = K := by rfl) (h4 : X.mg = mg := by rfl) (h5 : X.base = base := by rfl)
    (hdb : (x == ("__debug__" : Str)) = false := by decide) (he : starEach (e :: es) X.env = (false, eval e X.env) :: starEach es X.env := by rfl) (hpl : (backTo pos (starEach es X.env)).any (·.1) = false := by rfl) :
    DE X (.Call (.Name x p) (e :: es) [] pos) (tCall (spD K ps.length g) [] E0 t) (dCal g fa) := by
  subst h1 h2 h3 h4 h5
  exact de_call F hr hg ha hl hdb he hpl
/-- name = [..], the name a local -/
theorem ds_setLc {i : Nat} {y : Str} {py spos : Pos} {elt tg iter : Expr} {ifs : List Expr} {scope : Scope} {own : List (Str × Nat)} {wi : TI} {fi : IDen} {t : TG} {g : GDen} {is : List Nat} {tt : TT} {ft : TDen} (hc : X.calm = true) (hN : X.N.Nodup) (hy : X.N[i]? = some y) (hyl : X.env.scope.names.lookup y = some .local)
    (hsw : swapsWith (.ListComp elt [⟨tg, iter, ifs, 0⟩] scope pos) (some (.Name y py)) spos.line X.env = pure true) (hi : DI X tg iter wi fi) (ok : BlkOk X.N X.env.scope scope own)
    (hg : ∀ (s : Shared) (H : Hp) (C : Addr) (cl : List (Str × Addr)) (fp : List Addr), DG (X.blk s H scope (compEnvC scope cl C X.env) fp) tg t g is) (hv : ∀ i ∈ is, i ∈ own.map (·.2)) (ht : ∀ (s : Shared) (H : Hp) (C : Addr) (cl : List (Str × Addr)) (fp : List Addr), DTs (X.blk s H scope (compEnvC scope cl C X.env) fp) ifs tt ft)
    (he : ∀ (s : Shared) (H : Hp) (C : Addr) (cl : List (Str × Addr)) (fp : List Addr), DE (X.blk s H scope (compEnvC scope cl C X.env) fp) elt te f) (hs : ∀ x, foldedSetIterable iter X.env x = pure x := by intro _; rfl) :
    DS X (.Assign [.Name y py] (.ListComp elt [⟨tg, iter, ifs, 0⟩] scope pos) spos) (tAsg (tLc wi t tt te (own.map (·.2))) (gName i)) (dSet i (dLc fi g ft f (own.map (·.2)))) :=
  ⟨ps_setLc hc hN hy hyl hsw hi.pi ok (fun s H C cl fp => (hg s H C cl fp).pg) (fun s H C cl fp => (ht s H C cl fp).pt) (fun s H C cl fp => (he s H C cl fp).pe) hs,
    den_set (den_lc hi.dn (hg X.s_0 X.H_0 0 [] []).dn hv (ht X.s_0 X.H_0 0 [] []).dn (he X.s_0 X.H_0 0 [] []).dn)⟩
end
/-! ### what the top has written -/
theorem mk_def {K : PySem.W.Frag} {h : Heap} {mg : Str → Option Value} {x : Str} {st : Stmt} {ps : List Str} (X : K.In h) (G : h.Ns mainGlobals mg) {f : Addr} {od an : Option Addr} {osl : Array (Option Value)} {oc kV dc pm cd ct : Value}
    (a : PySem.W.nsIn K mainGlobals x = some (some (.ref f))) (l : K.lookup f = some ⟨oc, od, .func (PySem.W.fnOf x x (defArgs st) (defBody st) (defScope st) .none kV dc pm an cd ct), osl⟩) (c : PySem.W.codeIn K cd x = true) (k : PySem.W.keepIn K (.ref f) = true)
    (hb : ∀ (kV doc pm : Value) (an : Option Addr) (cdv ct : Value) (us : List Value), us.length = ps.length → bindArgs (PySem.W.fnOf x x (defArgs st) (defBody st) (defScope st) .none kV doc pm an cdv ct) ⟨us, []⟩ = pure (ps.zip us)) : Def K mg x st ps :=
  ⟨⟨f, _, fun_mk (st := st) l c k, PySem.W.mg_of X G a, (fun_mk (st := st) l c k).binds hb⟩⟩
theorem def_at {K : PySem.W.Frag} {mg : Str → Option Value} {x : Str} {st : Stmt} {ps : List Str} {fa : Addr} (D : Def K mg x st ps) (h : mg x = some (.ref fa)) : ∃ fd, Fun K x x st fa fd ∧ Binds K fd ps [] := by
  obtain ⟨f, fd, F, e, b⟩ := D.ex
  have := h.symm.trans e
  cases this
  exact ⟨fd, F, b⟩
theorem mk_int {K : PySem.W.Frag} {h : Heap} {mg : Str → Option Value} {x : Str} {i : Int} {t : Tok} (X : K.In h) (G : h.Ns mainGlobals mg) (a : PySem.W.nsIn K mainGlobals x = some (some (.int i t))) : ∃ t, mg x = some (.int i t) := ⟨t, PySem.W.mg_of X G a⟩
theorem mk_str {K : PySem.W.Frag} {h : Heap} {mg : Str → Option Value} {x : Str} {i : Str} {t : Tok} (X : K.In h) (G : h.Ns mainGlobals mg) (a : PySem.W.nsIn K mainGlobals x = some (some (.str i t))) : ∃ t, mg x = some (.str i t) := ⟨t, PySem.W.mg_of X G a⟩
theorem mk_non {K : PySem.W.Frag} {h : Heap} {mg : Str → Option Value} {x : Str} (X : K.In h) (G : h.Ns mainGlobals mg) (a : PySem.W.nsIn K mainGlobals x = some none) : mg x = none := PySem.W.mg_none_of X G a
end Dn
set_option Elab.async false
set_option linter.all false
set_option maxRecDepth 100000
namespace Dn
open PySem PySem.Spec PyProof.Rows L2
/-! ### a def that returns a new object -/
def dFinO (n : Nat) (fl : Flw) (m : Sto) : Option (Vl × Sto) := match fl with
  | .nx => some (.dat .non, m.take n)
  | .rt (.dat d) => some (.dat d, m.take n)
  | .rt (.obj i) => if i ≤ n then some (.obj i, m.take (n + 1)) else none
  | _ => none
def dBodyO (k : Nat) (b : SDen) : FDen := fun xs m => (b (xs.map some ++ List.replicate (k - xs.length) none) m).bind fun p => dFinO m.length p.1 p.2.2
section
variable {K : PySem.W.Frag}
theorem body_okO {t : TS} {b : SDen} {N : List Str} {n : Nat} {vs : List V} {H : Hp} {Q : VK} {E : XK} (hd : DenS K t b) (h : spD K n (dBodyO N.length b) vs H Q E) : t { nx := fun _ H' => Q .non H', rt := Q } (L2.start N vs) H := by
  obtain ⟨_, G, F, μ, m, xs, x, m', W, r, e, q⟩ := h
  unfold dBodyO at e
  cases h1 : b (xs.map some ++ List.replicate (N.length - xs.length) none) m with
  | none => rw [h1] at e; cases e
  | some p =>
  obtain ⟨fl, ρ', m1⟩ := p
  rw [h1] at e
  simp only [Option.bind_some] at e
  refine hd _ _ G F μ m H fl ρ' m1 _ W (er_start r) h1 ?_
  have hlen := W.len
  unfold dFinO at e
  split at e
  · cases e
    intro σ' G' μ' H' W' g' _
    obtain ⟨ex, hm⟩ := g'.m
    refine q .non G' (μ'.take m.length) H' (W'.take _) ⟨g'.g, [], ?_⟩ (.dat .non)
    rw [hm, ← hlen, List.take_left, List.append_nil]
  · cases e
    intro v G' μ' H' W' g' r'
    obtain ⟨ex, hm⟩ := g'.m
    cases r' with
    | dat r' =>
    refine q v G' (μ'.take m.length) H' (W'.take _) ⟨g'.g, [], ?_⟩ (.dat r')
    rw [hm, ← hlen, List.take_left, List.append_nil]
  · rename_i i
    intro v G' μ' H' W' g' r'
    obtain ⟨ex, hm⟩ := g'.m
    cases r' with
    | @obj _ a hi =>
    split at e
    · rename_i hle
      cases e
      refine q (.ref a) G' (μ'.take (m.length + 1)) H' (W'.take _) ⟨g'.g, ex.take 1, ?_⟩ (.obj ?_)
      · rw [hm, ← hlen, List.take_length_add_append]
      · rw [List.getElem?_take, if_pos (by omega)]
        exact hi
    · cases e
  · cases e
variable {P : Program} {w : World} {mg : Str → Option Value} {base : Heap}
theorem Def.fnO {x : Str} {st : Stmt} {ps N : List Str} {k : Nat} {b : SDen} (D : Def K mg x st ps) (S : FnScope N ps (defScope st))
    (hb : ∀ (f : Addr) (cdv : Value) (A : Around) (outer : List Env) (s : Shared) (H : Hp) (E : XK), Room k (A.deeper (envOfC x (defScope st) s.heap.objs.size f cdv)) →
      ∃ t, DSs (cxOf CX0 P w K mg base N x (defScope st) f cdv A outer s H E).nox (defBody st) t b) : FnD P w K mg base x ps (dBodyO N.length b) (k + 1) := by
  obtain ⟨f, fd, F, hm, hbi⟩ := D.ex
  have hlk : ∃ o, K.lookup f = some o ∧ o.data = .func fd := by
    obtain ⟨oc, od, kV, doc, pm, an, cdv, ct, osl, _, h, _⟩ := F.ex
    exact ⟨_, h, rfl⟩
  refine ⟨f, fd, ?_, hm, F.kp, hbi, hlk⟩
  refine F.ok S (fun vs H Q E h => h.1) fun cdv A outer s H vs Q E hr h => ?_
  obtain ⟨t, ht⟩ := hb f cdv A outer s H E hr
  exact ⟨t, ht.ps, body_okO ht.dn h⟩
end
end Dn
set_option Elab.async false
set_option linter.all false
set_option maxRecDepth 100000
/-! plain lemmas on denotations: no program, no heap -/
namespace Dn
open PySem PySem.Spec PyProof.Rows L2

/-! ### evaluation -/
section
variable {ρ : Envr} {m : Sto} {fa fb fc : EDen} {ga : ADen}
@[simp] theorem dVar_s {i : Nat} {x : Vl} (h : ρ[i]? = some (some x)) : dVar i ρ m = some (x, m) := by unfold dVar; rw [h]
@[simp] theorem dC_s {d : D} : dC d ρ m = some (.dat d, m) := rfl
@[simp] theorem dNil_s : dNil ρ m = some ([], m) := rfl
@[simp] theorem dCons_s : dCons fa ga ρ m = (fa ρ m).bind fun p => (ga ρ p.2).bind fun q => some (p.1 :: q.1, q.2) := rfl
@[simp] theorem dOp_s {op : Vl → Vl → Sto → Option (Vl × Sto)} : dOp op fa fb ρ m = (fa ρ m).bind fun p => (fb ρ p.2).bind fun q => op p.1 q.1 q.2 := rfl
@[simp] theorem dUn_s {op : Vl → Sto → Option (Vl × Sto)} : dUn op fa ρ m = (fa ρ m).bind fun p => op p.1 p.2 := rfl
@[simp] theorem dCal_s {g : FDen} : dCal g ga ρ m = (ga ρ m).bind fun p => g p.1 p.2 := rfl
@[simp] theorem dCalK_s {g : FDen} {is : List Nat} : dCalK g is ga ρ m = (ga ρ m).bind fun p => g (pick is p.1) p.2 := rfl
@[simp] theorem dRet_s : dRet fa ρ m = (fa ρ m).map fun p => (.rt p.1, ρ, p.2) := rfl
@[simp] theorem dSet_s {i : Nat} : dSet i fa ρ m = (fa ρ m).map fun p => (.nx, ρ.set i (some p.1), p.2) := rfl
@[simp] theorem dNext_s : dNext ρ m = some (.nx, ρ, m) := rfl
@[simp] theorem dDrop_s : dDrop fa ρ m = (fa ρ m).map fun p => (.nx, ρ, p.2) := rfl
@[simp] theorem dIfS_s {c : TDen} {f g : SDen} : dIfS c f g ρ m = (c ρ m).bind fun p => if p.1 then f ρ p.2 else g ρ p.2 := rfl
@[simp] theorem dTAnd_s {f g : TDen} : dTAnd f g ρ m = (f ρ m).bind fun p => if p.1 then g ρ p.2 else some (false, p.2) := rfl
@[simp] theorem dTOr_s {f g : TDen} : dTOr f g ρ m = (f ρ m).bind fun p => if p.1 then some (true, p.2) else g ρ p.2 := rfl
@[simp] theorem dTNot_s {f : TDen} : dTNot f ρ m = (f ρ m).bind fun p => some (!p.1, p.2) := rfl
def tstO : Option (Vl × Sto) → Option (Bool × Sto)
  | some (.dat (.bl b), m) => some (b, m)
  | _ => none
@[simp] theorem tstO_s {b : Bool} : tstO (some (.dat (.bl b), m)) = some (b, m) := rfl
@[simp] theorem dTst_s : dTst fa ρ m = tstO (fa ρ m) := by
  unfold dTst tstO
  cases fa ρ m with
  | none => rfl
  | some p =>
    obtain ⟨x, m1⟩ := p
    cases x with
    | obj i => rfl
    | dat d => cases d <;> rfl
def andO (o : Option (Vl × Sto)) (k : Sto → Option (Vl × Sto)) : Option (Vl × Sto) := match o with
  | some (.dat (.bl true), m) => k m
  | some (.dat (.bl false), m) => some (.dat (.bl false), m)
  | _ => none
def orO (o : Option (Vl × Sto)) (k : Sto → Option (Vl × Sto)) : Option (Vl × Sto) := match o with
  | some (.dat (.bl false), m) => k m
  | some (.dat (.bl true), m) => some (.dat (.bl true), m)
  | _ => none
def notO : Option (Vl × Sto) → Option (Vl × Sto)
  | some (.dat (.bl b), m) => some (.dat (.bl (!b)), m)
  | _ => none
@[simp] theorem andO_s {b : Bool} {k : Sto → Option (Vl × Sto)} : andO (some (.dat (.bl b), m)) k = if b then k m else some (.dat (.bl false), m) := by cases b <;> rfl
@[simp] theorem orO_s {b : Bool} {k : Sto → Option (Vl × Sto)} : orO (some (.dat (.bl b), m)) k = if b then some (.dat (.bl true), m) else k m := by cases b <;> rfl
@[simp] theorem notO_s {b : Bool} : notO (some (.dat (.bl b), m)) = some (.dat (.bl (!b)), m) := rfl
@[simp] theorem dAnd_s : dAnd fa fb ρ m = andO (fa ρ m) (fb ρ) := by
  unfold dAnd andO
  cases fa ρ m with
  | none => rfl
  | some p =>
    obtain ⟨x, m1⟩ := p
    cases x with
    | obj i => rfl
    | dat d => cases d with
      | bl b => cases b <;> rfl
      | _ => rfl
@[simp] theorem dOr_s : dOr fa fb ρ m = orO (fa ρ m) (fb ρ) := by
  unfold dOr orO
  cases fa ρ m with
  | none => rfl
  | some p =>
    obtain ⟨x, m1⟩ := p
    cases x with
    | obj i => rfl
    | dat d => cases d with
      | bl b => cases b <;> rfl
      | _ => rfl
@[simp] theorem dNot_s : dNot fa ρ m = notO (fa ρ m) := by
  unfold dNot notO
  cases fa ρ m with
  | none => rfl
  | some p =>
    obtain ⟨x, m1⟩ := p
    cases x with
    | obj i => rfl
    | dat d => cases d with
      | bl b => cases b <;> rfl
      | _ => rfl
@[simp] theorem seq_nx {f g : SDen} {ρ' : Envr} {m' : Sto} (h : f ρ m = some (.nx, ρ', m')) : dSeq f g ρ m = g ρ' m' := by unfold dSeq; rw [h]; rfl
theorem seq_rt {f g : SDen} {ρ' : Envr} {m' : Sto} {x : Vl} (h : f ρ m = some (.rt x, ρ', m')) : dSeq f g ρ m = some (.rt x, ρ', m') := by unfold dSeq; rw [h]; rfl
def seqO (o : Option (Flw × Envr × Sto)) (g : SDen) : Option (Flw × Envr × Sto) := match o with
  | some (.nx, ρ, m) => g ρ m
  | some (fl, ρ, m) => some (fl, ρ, m)
  | none => none
@[simp] theorem seqO_nx {g : SDen} : seqO (some (.nx, ρ, m)) g = g ρ m := rfl
@[simp] theorem seqO_rt {g : SDen} {x : Vl} : seqO (some (.rt x, ρ, m)) g = some (.rt x, ρ, m) := rfl
theorem dSeq_s {f g : SDen} : dSeq f g ρ m = seqO (f ρ m) g := by
  unfold dSeq seqO
  cases f ρ m with
  | none => rfl
  | some p =>
    obtain ⟨fl, ρ1, m1⟩ := p
    cases fl <;> rfl
@[simp] theorem dYes_s : dYes ρ m = some (true, m) := rfl
@[simp] theorem lift2_s {g : D → D → Option D} {a b : D} : lift2 g (.dat a) (.dat b) m = (g a b).map fun d => (.dat d, m) := rfl
@[simp] theorem cmpI_s {p : Int → Int → Bool} {i j : Int} : cmpI p (.int i) (.int j) = some (.bl (p i j)) := rfl
@[simp] theorem addI_s {i j : Int} : addD (.int i) (.int j) = some (.int (i + j)) := rfl
@[simp] theorem subI_s {i j : Int} : subD (.int i) (.int j) = some (.int (i - j)) := rfl
@[simp] theorem lenF_lst {l : List D} : lenF [.dat (.lst l)] m = some (.dat (.int l.length), m) := rfl
@[simp] theorem lenF_tup {l : List D} : lenF [.dat (.tup l)] m = some (.dat (.int l.length), m) := rfl
@[simp] theorem gNm_s {i : Nat} {d : D} : gNm i d ρ = some (ρ.set i (some (.dat d))) := rfl
@[simp] theorem dWipe_nil : dWipe ρ [] = ρ := rfl
@[simp] theorem dWipe_cons {i : Nat} {is : List Nat} : dWipe ρ (i :: is) = (dWipe ρ is).set i none := rfl
end
/-- a def by its body's result -/
theorem body_rt {n : Nat} {b : SDen} {xs : List Vl} {m m' : Sto} {d : D} {ρ' : Envr} (h : b (xs.map some ++ List.replicate (n - xs.length) none) m = some (.rt (.dat d), ρ', m')) (hm : m'.take m.length = m') : dBody n b xs m = some (.dat d, m') := by
  unfold dBody
  rw [h]
  show some (Vl.dat d, m'.take m.length) = _
  rw [hm]
theorem body_rt0 {n : Nat} {b : SDen} {xs : List Vl} {m : Sto} {d : D} {ρ' : Envr} (h : b (xs.map some ++ List.replicate (n - xs.length) none) m = some (.rt (.dat d), ρ', m)) : dBody n b xs m = some (.dat d, m) := body_rt h (List.take_length)

/-! ### comprehensions over data -/
theorem dLcL_map {g : GDen} {t : TDen} {f : EDen} {its : Its} {ρ : Envr} {m : Sto} (hs : srcB its m = true) (p : D → Bool) (y : D → D) : ∀ ds : List D, (∀ d ∈ ds, ∃ ρ1, g d ρ = some ρ1 ∧ t ρ1 m = some (p d, m) ∧ (p d = true → f ρ1 m = some (.dat (y d), m))) →
    dLcL g t f its ρ ds m = some ((ds.filter p).map y, m)
  | [], _ => rfl
  | d :: ds, h => by
    obtain ⟨ρ1, h1, h2, h3⟩ := h d List.mem_cons_self
    have ih := dLcL_map hs p y ds fun e he => h e (List.mem_cons_of_mem _ he)
    unfold dLcL
    rw [h1, Option.bind_some, h2, Option.bind_some]
    cases hp : p d with
    | true =>
      rw [if_pos rfl, h3 hp, Option.bind_some]
      simp only [hs, if_true]
      rw [ih, List.filter_cons_of_pos hp]
      rfl
    | false =>
      rw [if_neg Bool.false_ne_true, hs, if_pos rfl, ih, List.filter_cons_of_neg (by rw [hp]; exact Bool.false_ne_true)]
theorem dLc_mapS {fi : IDen} {g : GDen} {t : TDen} {f : EDen} {vs : List Nat} {ρ : Envr} {m m1 : Sto} {its : Its} (p : D → Bool) (y : D → D) (hi : fi ρ m = some (its, m1)) (hs : srcB its m1 = true) (hl : its.items.length ≤ 1000000)
    (h : ∀ d ∈ its.items, ∃ ρ1, g d (dWipe ρ vs) = some ρ1 ∧ t ρ1 m1 = some (p d, m1) ∧ (p d = true → f ρ1 m1 = some (.dat (y d), m1))) : dLc fi g t f vs ρ m = some (.dat (.lst ((its.items.filter p).map y)), m1) := by
  unfold dLc
  rw [hi, Option.bind_some]
  show (if lim its.items.length then _ else _) = _
  rw [if_pos (show lim its.items.length = true from decide_eq_true hl), dLcL_map hs p y its.items h]
  rfl
theorem dLc_map {fi : IDen} {g : GDen} {t : TDen} {f : EDen} {vs : List Nat} {ρ : Envr} {m m1 : Sto} {l : List D} (p : D → Bool) (y : D → D) (hi : fi ρ m = some (⟨l, none⟩, m1)) (hl : l.length ≤ 1000000)
    (h : ∀ d ∈ l, ∃ ρ1, g d (dWipe ρ vs) = some ρ1 ∧ t ρ1 m1 = some (p d, m1) ∧ (p d = true → f ρ1 m1 = some (.dat (y d), m1))) : dLc fi g t f vs ρ m = some (.dat (.lst ((l.filter p).map y)), m1) := by
  unfold dLc
  rw [hi, Option.bind_some]
  show (if lim l.length then _ else _) = _
  rw [if_pos (show lim l.length = true from decide_eq_true hl), dLcL_map (its := ⟨l, none⟩) srcB_none p y l h]
  rfl
/-- a comprehension that may change the store: J i m, before the i-th item -/
theorem dLcL_wp {g : GDen} {f : EDen} {l : List D} {ρ : Envr} (J : Nat → Sto → Prop) (P : D → Prop) (N : Nat) : ∀ (ds : List D) (i : Nat) (m : Sto), i + ds.length ≤ N → J i m →
    (∀ d ∈ ds, ∀ i m, i < N → J i m → ∃ ρ1 y m1, g d ρ = some ρ1 ∧ f ρ1 m = some (.dat y, m1) ∧ P y ∧ J (i + 1) m1) →
    ∃ ys m', dLcL g dYes f ⟨l, none⟩ ρ ds m = some (ys, m') ∧ ys.length = ds.length ∧ (∀ y ∈ ys, P y) ∧ J (i + ds.length) m'
  | [], i, m, _, j, _ => ⟨[], m, rfl, rfl, fun y h => (by cases h), j⟩
  | d :: ds, i, m, hN, j, h => by
    rw [List.length_cons] at hN
    obtain ⟨ρ1, y, m1, h1, h2, h3, h4⟩ := h d List.mem_cons_self i m (by omega) j
    obtain ⟨ys, m', e1, e2, e3, e4⟩ := dLcL_wp (l := l) (g := g) (f := f) (ρ := ρ) J P N ds (i + 1) m1 (by omega) h4 fun e he => h e (List.mem_cons_of_mem _ he)
    refine ⟨y :: ys, m', ?_, by rw [List.length_cons, List.length_cons, e2], fun z hz => ?_, ?_⟩
    · unfold dLcL
      rw [h1, Option.bind_some, dYes_s, Option.bind_some, if_pos rfl, h2, Option.bind_some]
      simp only [srcB_none, if_true]
      rw [e1]
      rfl
    · rcases List.mem_cons.mp hz with rfl | hz
      · exact h3
      · exact e3 z hz
    · rw [List.length_cons]
      rw [show i + (ds.length + 1) = i + 1 + ds.length by omega]
      exact e4
theorem dLc_wp {fi : IDen} {g : GDen} {f : EDen} {vs : List Nat} {ρ : Envr} {m m1 : Sto} {l : List D} (J : Nat → Sto → Prop) (P : D → Prop) (hi : fi ρ m = some (⟨l, none⟩, m1)) (hl : l.length ≤ 1000000) (j : J 0 m1)
    (h : ∀ d ∈ l, ∀ i m, i < l.length → J i m → ∃ ρ1 y m1, g d (dWipe ρ vs) = some ρ1 ∧ f ρ1 m = some (.dat y, m1) ∧ P y ∧ J (i + 1) m1) : ∃ ys m', dLc fi g dYes f vs ρ m = some (.dat (.lst ys), m') ∧ ys.length = l.length ∧ (∀ y ∈ ys, P y) ∧ J l.length m' := by
  obtain ⟨ys, m', e1, e2, e3, e4⟩ := dLcL_wp (l := l) (g := g) (f := f) (ρ := dWipe ρ vs) J P l.length l 0 m1 (by omega) j h
  refine ⟨ys, m', ?_, e2, e3, by rw [Nat.zero_add] at e4; exact e4⟩
  unfold dLc
  rw [hi, Option.bind_some]
  show (if lim l.length then _ else _) = _
  rw [if_pos (show lim l.length = true from decide_eq_true hl), e1]
  rfl
/-- a loop that goes on to its end: J i ρ m before the i-th item -/
theorem dForL_wp {g : GDen} {body : SDen} {its : Its} (hs : its.src = none) (J : Nat → Envr → Sto → Prop) (N : Nat) : ∀ (ds : List D) (i : Nat) (ρ : Envr) (m : Sto), i + ds.length ≤ N → J i ρ m →
    (∀ d ∈ ds, ∀ i ρ m, i < N → J i ρ m → ∃ ρ1 fl ρ2 m2, g d ρ = some ρ1 ∧ body ρ1 m = some (fl, ρ2, m2) ∧ (fl = .nx ∨ fl = .ct) ∧ J (i + 1) ρ2 m2) →
    ∃ ρ' m', dForL g body its ds ρ m = some (.nx, ρ', m') ∧ J (i + ds.length) ρ' m'
  | [], i, ρ, m, _, j, _ => ⟨ρ, m, rfl, j⟩
  | d :: ds, i, ρ, m, hN, j, h => by
    rw [List.length_cons] at hN
    obtain ⟨ρ1, fl, ρ2, m2, h1, h2, h3, h4⟩ := h d List.mem_cons_self i ρ m (by omega) j
    obtain ⟨ρ', m', e1, e2⟩ := dForL_wp hs J N ds (i + 1) ρ2 m2 (by omega) h4 fun e he => h e (List.mem_cons_of_mem _ he)
    have hb : srcB its m2 = true := by unfold srcB; rw [hs]
    refine ⟨ρ', m', ?_, ?_⟩
    · unfold dForL
      rw [h1, Option.bind_some, h2, Option.bind_some]
      rcases h3 with rfl | rfl
      · show (if srcB its m2 then _ else _) = _
        rw [hb, if_pos rfl]; exact e1
      · show (if srcB its m2 then _ else _) = _
        rw [hb, if_pos rfl]; exact e1
    · rw [List.length_cons, show i + (ds.length + 1) = i + 1 + ds.length by omega]
      exact e2
theorem dFor_wp {fi : IDen} {g : GDen} {body : SDen} {ρ : Envr} {m m1 : Sto} {l : List D} (J : Nat → Envr → Sto → Prop) (hi : fi ρ m = some (⟨l, none⟩, m1)) (j : J 0 ρ m1)
    (h : ∀ d ∈ l, ∀ i ρ m, i < l.length → J i ρ m → ∃ ρ1 fl ρ2 m2, g d ρ = some ρ1 ∧ body ρ1 m = some (fl, ρ2, m2) ∧ (fl = .nx ∨ fl = .ct) ∧ J (i + 1) ρ2 m2) : ∃ ρ' m', dFor fi g body ρ m = some (.nx, ρ', m') ∧ J l.length ρ' m' := by
  obtain ⟨ρ', m', e1, e2⟩ := dForL_wp (its := ⟨l, none⟩) rfl J l.length l 0 ρ m1 (by omega) j h
  refine ⟨ρ', m', ?_, by rw [Nat.zero_add] at e2; exact e2⟩
  unfold dFor
  rw [hi]
  exact e1
/-! ### isinstance -/
@[simp] theorem kit_NoneType_int : L2.kitB "NoneType" "int" = some false := by decide +kernel
@[simp] theorem kit_NoneType_bool : L2.kitB "NoneType" "bool" = some false := by decide +kernel
@[simp] theorem kit_NoneType_list : L2.kitB "NoneType" "list" = some false := by decide +kernel
@[simp] theorem kit_NoneType_tuple : L2.kitB "NoneType" "tuple" = some false := by decide +kernel
@[simp] theorem kit_NoneType_dict : L2.kitB "NoneType" "dict" = some false := by decide +kernel
@[simp] theorem kit_NoneType_str : L2.kitB "NoneType" "str" = some false := by decide +kernel
@[simp] theorem kit_bool_int : L2.kitB "bool" "int" = some true := by decide +kernel
@[simp] theorem kit_bool_bool : L2.kitB "bool" "bool" = some true := by decide +kernel
@[simp] theorem kit_bool_list : L2.kitB "bool" "list" = some false := by decide +kernel
@[simp] theorem kit_bool_tuple : L2.kitB "bool" "tuple" = some false := by decide +kernel
@[simp] theorem kit_bool_dict : L2.kitB "bool" "dict" = some false := by decide +kernel
@[simp] theorem kit_bool_str : L2.kitB "bool" "str" = some false := by decide +kernel
@[simp] theorem kit_int_int : L2.kitB "int" "int" = some true := by decide +kernel
@[simp] theorem kit_int_bool : L2.kitB "int" "bool" = some false := by decide +kernel
@[simp] theorem kit_int_list : L2.kitB "int" "list" = some false := by decide +kernel
@[simp] theorem kit_int_tuple : L2.kitB "int" "tuple" = some false := by decide +kernel
@[simp] theorem kit_int_dict : L2.kitB "int" "dict" = some false := by decide +kernel
@[simp] theorem kit_int_str : L2.kitB "int" "str" = some false := by decide +kernel
@[simp] theorem kit_str_int : L2.kitB "str" "int" = some false := by decide +kernel
@[simp] theorem kit_str_bool : L2.kitB "str" "bool" = some false := by decide +kernel
@[simp] theorem kit_str_list : L2.kitB "str" "list" = some false := by decide +kernel
@[simp] theorem kit_str_tuple : L2.kitB "str" "tuple" = some false := by decide +kernel
@[simp] theorem kit_str_dict : L2.kitB "str" "dict" = some false := by decide +kernel
@[simp] theorem kit_str_str : L2.kitB "str" "str" = some true := by decide +kernel
@[simp] theorem kit_list_int : L2.kitB "list" "int" = some false := by decide +kernel
@[simp] theorem kit_list_bool : L2.kitB "list" "bool" = some false := by decide +kernel
@[simp] theorem kit_list_list : L2.kitB "list" "list" = some true := by decide +kernel
@[simp] theorem kit_list_tuple : L2.kitB "list" "tuple" = some false := by decide +kernel
@[simp] theorem kit_list_dict : L2.kitB "list" "dict" = some false := by decide +kernel
@[simp] theorem kit_list_str : L2.kitB "list" "str" = some false := by decide +kernel
@[simp] theorem kit_tuple_int : L2.kitB "tuple" "int" = some false := by decide +kernel
@[simp] theorem kit_tuple_bool : L2.kitB "tuple" "bool" = some false := by decide +kernel
@[simp] theorem kit_tuple_list : L2.kitB "tuple" "list" = some false := by decide +kernel
@[simp] theorem kit_tuple_tuple : L2.kitB "tuple" "tuple" = some true := by decide +kernel
@[simp] theorem kit_tuple_dict : L2.kitB "tuple" "dict" = some false := by decide +kernel
@[simp] theorem kit_tuple_str : L2.kitB "tuple" "str" = some false := by decide +kernel
@[simp] theorem kit_dict_int : L2.kitB "dict" "int" = some false := by decide +kernel
@[simp] theorem kit_dict_bool : L2.kitB "dict" "bool" = some false := by decide +kernel
@[simp] theorem kit_dict_list : L2.kitB "dict" "list" = some false := by decide +kernel
@[simp] theorem kit_dict_tuple : L2.kitB "dict" "tuple" = some false := by decide +kernel
@[simp] theorem kit_dict_dict : L2.kitB "dict" "dict" = some true := by decide +kernel
@[simp] theorem kit_dict_str : L2.kitB "dict" "str" = some false := by decide +kernel
def tn : D → Option String
  | .non => some "NoneType"
  | .bl _ => some "bool"
  | .int _ => some "int"
  | .str _ => some "str"
  | .lst _ => some "list"
  | .frl _ => some "list"
  | .tup _ => some "tuple"
  | .dct _ _ => some "dict"
  | .ty _ => none
theorem isi_one {d : D} {n : String} {m : Sto} {t : String} {b : Bool} (h : tn d = some t) (k : L2.kitB t n = some b) : isiF [.dat d, .dat (.ty n)] m = some (.dat (.bl b), m) := by
  have e : tyNm m (.dat d) = some t := by rw [← h]; cases d <;> rfl
  show (tyNm m (.dat d)).bind _ = _
  rw [e, Option.bind_some, k]; rfl
theorem isi_two {d : D} {n n' : String} {m : Sto} {t : String} {b b' : Bool} (h : tn d = some t) (k : L2.kitB t n = some b) (k' : L2.kitB t n' = some b') : isiF [.dat d, .dat (.tup [.ty n, .ty n'])] m = some (.dat (.bl (b || b')), m) := by
  have e : tyNm m (.dat d) = some t := by rw [← h]; cases d <;> rfl
  show (tyNm m (.dat d)).bind _ = _
  rw [e, Option.bind_some]
  show (kitAnyB t [n, n']).map _ = _
  unfold kitAnyB
  rw [k]
  cases b
  · show (kitAnyB t [n']).map _ = _
    unfold kitAnyB
    rw [k']
    cases b' <;> rfl
  · rfl
/-! ### == -/
theorem eqX_int {i j : Int} : eqX (.int i) (.int j) = some (decide (i = j)) := by
  unfold eqX eqD shap toPy
  simp [SeqAt.shaped, PyData.canLay0, PyData.depth, PyData.eqv]
  rw [Bool.eq_iff_iff, beq_iff_eq, decide_eq_true_eq]
@[simp] theorem eqQ_int {i j : Int} {m : Sto} : eqQ (.dat (.int i)) (.dat (.int j)) m = some (.dat (.bl (decide (i = j))), m) := by
  unfold eqQ; rw [lift2_s, eqX_int]; rfl
@[simp] theorem neQ_int {i j : Int} {m : Sto} : neQ (.dat (.int i)) (.dat (.int j)) m = some (.dat (.bl (!decide (i = j))), m) := by
  unfold neQ; rw [lift2_s, eqX_int]; rfl
theorem eqX_nil {l : List D} : eqX (.lst l) (.lst []) = some l.isEmpty := by
  unfold eqX
  cases l with
  | nil => 
    simp [eqD, shap, toPy, toPyAll, SeqAt.shaped, PyData.canLay0, PyData.canLayAll0, PyData.depth, PyData.eqv, PyData.eqvAll, PyData.depthAll]
  | cons d l => simp
@[simp] theorem eqQ_nil {l : List D} {m : Sto} : eqQ (.dat (.lst l)) (.dat (.lst [])) m = some (.dat (.bl l.isEmpty), m) := by
  unfold eqQ; rw [lift2_s, eqX_nil]; rfl
@[simp] theorem neQ_nil {l : List D} {m : Sto} : neQ (.dat (.lst l)) (.dat (.lst [])) m = some (.dat (.bl (!l.isEmpty)), m) := by
  unfold neQ; rw [lift2_s, eqX_nil]; rfl
theorem bools_map {α : Type} {p : α → Bool} : ∀ l : List α, bools (l.map fun d => .bl (p d)) = some (l.map p)
  | [] => rfl
  | d :: l => by
    rw [List.map_cons]
    unfold bools
    rw [bools_map l]; rfl
@[simp] theorem allF_map {α : Type} {p : α → Bool} {l : List α} {m : Sto} : allF [.dat (.lst (l.map fun d => .bl (p d)))] m = some (.dat (.bl (l.all p)), m) := by
  show (bools _).map _ = _
  rw [bools_map]
  show some (Vl.dat (.bl ((l.map p).all id)), m) = _
  rw [List.all_map]; rfl
@[simp] theorem anyF_map {α : Type} {p : α → Bool} {l : List α} {m : Sto} : anyF [.dat (.lst (l.map fun d => .bl (p d)))] m = some (.dat (.bl (l.any p)), m) := by
  show (bools _).map _ = _
  rw [bools_map]
  show some (Vl.dat (.bl ((l.map p).any id)), m) = _
  rw [List.any_map]; rfl
theorem filter_yes {α : Type} (l : List α) : l.filter (fun _ => true) = l := List.filter_eq_self.mpr fun _ _ => rfl
@[simp] theorem dLst_nil {ρ : Envr} {m : Sto} : dLst dNil ρ m = some (.dat (.lst []), m) := by simp [dLst, datAll, lim]
@[simp] theorem powD_9 : powD (.int 10) (.int 9) = some (.int 1000000000) := by
  unfold powD
  simp
@[simp] theorem powD_18 : powD (.int 10) (.int 18) = some (.int 1000000000000000000) := by
  unfold powD
  simp
theorem gTp2 {i j : Nat} {a b : D} {ρ : Envr} : gTp 2 (gsCons (gNm i) (gsCons (gNm j) gsNil)) (.tup [a, b]) ρ = some ((ρ.set i (some (.dat a))).set j (some (.dat b))) := rfl
theorem zipD_mem : ∀ {xs ys : List D} {e : D}, e ∈ zipD xs ys → ∃ x y, x ∈ xs ∧ y ∈ ys ∧ e = .tup [x, y]
  | [], ys, e, h => by cases h
  | x :: xs, [], e, h => by cases h
  | x :: xs, y :: ys, e, h => by
    rcases List.mem_cons.mp h with rfl | h
    · exact ⟨x, y, List.mem_cons_self, List.mem_cons_self, rfl⟩
    · obtain ⟨a, b, h1, h2, h3⟩ := zipD_mem h
      exact ⟨a, b, List.mem_cons_of_mem _ h1, List.mem_cons_of_mem _ h2, h3⟩
theorem zipD_length : ∀ (xs ys : List D), (zipD xs ys).length ≤ xs.length
  | [], ys => Nat.zero_le _
  | x :: xs, [] => Nat.zero_le _
  | x :: xs, y :: ys => Nat.succ_le_succ (zipD_length xs ys)
theorem dec_lt (i j : Int) : decide (i < j) = !decide (j ≤ i) := by
  rw [← decide_not]
  exact decide_eq_decide.mpr (by omega)
end Dn
set_option Elab.async false
set_option linter.all false
set_option maxRecDepth 100000
set_option maxHeartbeats 4000000
namespace K28
open PySem PySem.Spec PyProof.Rows L2 Dn
/-! ### the text -/
def topS (i : Nat) : Stmt := PySem.Challenge.pw_purseends_k28_fronts_and_entries_among_a.main.body.getD i (.Pass ⟨0, 0, 0, 0⟩)
abbrev s_is_integer : Stmt := topS 1
abbrev N_is_integer : List Str := ["value"]
theorem sc_is_integer : FnScope N_is_integer ["value"] (defScope s_is_integer) := ⟨rfl, rfl, rfl, by decide +kernel, rfl, by decide +kernel, by decide +kernel⟩
abbrev s_is_between : Stmt := topS 2
abbrev N_is_between : List Str := ["value", "least", "most"]
theorem sc_is_between : FnScope N_is_between ["value", "least", "most"] (defScope s_is_between) := ⟨rfl, rfl, rfl, by decide +kernel, rfl, by decide +kernel, by decide +kernel⟩
abbrev s_is_listed : Stmt := topS 3
abbrev N_is_listed : List Str := ["value"]
theorem sc_is_listed : FnScope N_is_listed ["value"] (defScope s_is_listed) := ⟨rfl, rfl, rfl, by decide +kernel, rfl, by decide +kernel, by decide +kernel⟩
abbrev s_copied : Stmt := topS 5
abbrev N_copied : List Str := ["value", "one"]
theorem sc_copied : FnScope N_copied ["value"] (defScope s_copied) := ⟨rfl, rfl, rfl, by decide +kernel, rfl, by decide +kernel, by decide +kernel⟩
abbrev s_is_row : Stmt := topS 8
abbrev N_is_row : List Str := ["value", "many", "least", "most", "one"]
theorem sc_is_row : FnScope N_is_row ["value", "many", "least", "most"] (defScope s_is_row) := ⟨rfl, rfl, rfl, by decide +kernel, rfl, by decide +kernel, by decide +kernel⟩
abbrev s_is_corner : Stmt := topS 12
abbrev N_is_corner : List Str := ["value", "many", "limit", "rest"]
theorem sc_is_corner : FnScope N_is_corner ["value", "many"] (defScope s_is_corner) := ⟨rfl, rfl, rfl, by decide +kernel, rfl, by decide +kernel, by decide +kernel⟩
abbrev s_is_at_most : Stmt := topS 14
abbrev N_is_at_most : List Str := ["one", "other", "mine", "its"]
theorem sc_is_at_most : FnScope N_is_at_most ["one", "other"] (defScope s_is_at_most) := ⟨rfl, rfl, rfl, by decide +kernel, rfl, by decide +kernel, by decide +kernel⟩
abbrev s_covers : Stmt := topS 15
abbrev N_covers : List Str := ["one", "other"]
theorem sc_covers : FnScope N_covers ["one", "other"] (defScope s_covers) := ⟨rfl, rfl, rfl, by decide +kernel, rfl, by decide +kernel, by decide +kernel⟩
abbrev s_cut : Stmt := topS 16
abbrev N_cut : List Str := ["corners", "kept", "one", "other"]
theorem sc_cut : FnScope N_cut ["corners"] (defScope s_cut) := ⟨rfl, rfl, rfl, by decide +kernel, rfl, by decide +kernel, by decide +kernel⟩
abbrev s_is_front : Stmt := topS 13
abbrev N_is_front : List Str := ["value", "many", "told", "one"]
theorem sc_is_front : FnScope N_is_front ["value", "many"] (defScope s_is_front) := ⟨rfl, rfl, rfl, by decide +kernel, rfl, by decide +kernel, by decide +kernel⟩
abbrev s_is_entry : Stmt := topS 20
abbrev N_is_entry : List Str := ["value", "many"]
theorem sc_is_entry : FnScope N_is_entry ["value", "many"] (defScope s_is_entry) := ⟨rfl, rfl, rfl, by decide +kernel, rfl, by decide +kernel, by decide +kernel⟩
abbrev s__law_pen : Stmt := topS 22
abbrev N__law_pen : List Str := ["script", "cell"]
theorem sc__law_pen : FnScope N__law_pen ["script"] (defScope s__law_pen) := ⟨rfl, rfl, rfl, by decide +kernel, rfl, by decide +kernel, by decide +kernel⟩
abbrev s__law_draw : Stmt := topS 23
abbrev N__law_draw : List Str := ["pen", "many", "at", "cell", "mixed", "rest"]
theorem sc__law_draw : FnScope N__law_draw ["pen", "many"] (defScope s__law_draw) := ⟨rfl, rfl, rfl, by decide +kernel, rfl, by decide +kernel, by decide +kernel⟩
abbrev s__law_pick : Stmt := topS 24
abbrev N__law_pick : List Str := ["pen", "some"]
theorem sc__law_pick : FnScope N__law_pick ["pen", "some"] (defScope s__law_pick) := ⟨rfl, rfl, rfl, by decide +kernel, rfl, by decide +kernel, by decide +kernel⟩
abbrev s__law_under : Stmt := topS 25
abbrev N__law_under : List Str := ["one", "other", "mine", "its"]
theorem sc__law_under : FnScope N__law_under ["one", "other"] (defScope s__law_under) := ⟨rfl, rfl, rfl, by decide +kernel, rfl, by decide +kernel, by decide +kernel⟩
abbrev s__law_flat : Stmt := topS 26
abbrev N__law_flat : List Str := ["corner"]
theorem sc__law_flat : FnScope N__law_flat ["corner"] (defScope s__law_flat) := ⟨rfl, rfl, rfl, by decide +kernel, rfl, by decide +kernel, by decide +kernel⟩
abbrev s__law_cut : Stmt := topS 27
abbrev N__law_cut : List Str := ["corners", "some", "one", "other"]
theorem sc__law_cut : FnScope N__law_cut ["corners"] (defScope s__law_cut) := ⟨rfl, rfl, rfl, by decide +kernel, rfl, by decide +kernel, by decide +kernel⟩
abbrev s__law_corner : Stmt := topS 28
abbrev N__law_corner : List Str := ["pen", "many", "limits", "at", "limit"]
theorem sc__law_corner : FnScope N__law_corner ["pen", "many"] (defScope s__law_corner) := ⟨rfl, rfl, rfl, by decide +kernel, rfl, by decide +kernel, by decide +kernel⟩
abbrev s__law_front : Stmt := topS 29
abbrev N__law_front : List Str := ["pen", "many", "at"]
theorem sc__law_front : FnScope N__law_front ["pen", "many"] (defScope s__law_front) := ⟨rfl, rfl, rfl, by decide +kernel, rfl, by decide +kernel, by decide +kernel⟩
abbrev s__law_is_int : Stmt := topS 30
abbrev N__law_is_int : List Str := ["value", "fewest", "most"]
theorem sc__law_is_int : FnScope N__law_is_int ["value", "fewest", "most"] (defScope s__law_is_int) := ⟨rfl, rfl, rfl, by decide +kernel, rfl, by decide +kernel, by decide +kernel⟩
abbrev s__law_is_listed : Stmt := topS 31
abbrev N__law_is_listed : List Str := ["value"]
theorem sc__law_is_listed : FnScope N__law_is_listed ["value"] (defScope s__law_is_listed) := ⟨rfl, rfl, rfl, by decide +kernel, rfl, by decide +kernel, by decide +kernel⟩
abbrev s__law_is_corner : Stmt := topS 32
abbrev N__law_is_corner : List Str := ["value", "many", "row", "fewest", "limit", "rest", "one"]
theorem sc__law_is_corner : FnScope N__law_is_corner ["value", "many"] (defScope s__law_is_corner) := ⟨rfl, rfl, rfl, by decide +kernel, rfl, by decide +kernel, by decide +kernel⟩
abbrev s__law_is_front : Stmt := topS 33
abbrev N__law_is_front : List Str := ["value", "many", "told", "one"]
theorem sc__law_is_front : FnScope N__law_is_front ["value", "many"] (defScope s__law_is_front) := ⟨rfl, rfl, rfl, by decide +kernel, rfl, by decide +kernel, by decide +kernel⟩
abbrev s__law_near_to : Stmt := topS 34
abbrev N__law_near_to : List Str := ["pen", "value", "at"]
theorem sc__law_near_to : FnScope N__law_near_to ["pen", "value"] (defScope s__law_near_to) := ⟨rfl, rfl, rfl, by decide +kernel, rfl, by decide +kernel, by decide +kernel⟩
abbrev s_law : Stmt := topS 35
abbrev N_law : List Str := ["script", "pen", "turn", "steps", "many", "front", "corners", "value", "its", "at", "due", "entry", "is_won", "is_drawn", "lap", "one"]
theorem sc_law : FnScope N_law ["script"] (defScope s_law) := ⟨rfl, rfl, rfl, by decide +kernel, rfl, by decide +kernel, by decide +kernel⟩
/-! ### the denotations -/
noncomputable def b_is_integer : SDen := (dRet (dAnd (dCal isiF (dCons (dVar 0) (dCons (dC (.ty "int")) dNil))) (dNot (dCal isiF (dCons (dVar 0) (dCons (dC (.ty "bool")) dNil))))))
noncomputable def F_is_integer : FDen := dBody N_is_integer.length b_is_integer
noncomputable def b_is_between : SDen := (dRet (dAnd (dCal F_is_integer (dCons (dVar 0) dNil)) (dChain qLe qLe (dVar 1) (dVar 0) (dVar 2))))
noncomputable def F_is_between : FDen := dBody N_is_between.length b_is_between
noncomputable def b_is_listed : SDen := (dRet (dCal isiF (dCons (dVar 0) (dCons (dTup (dCons (dC (.ty "list")) (dCons (dC (.ty "tuple")) dNil))) dNil))))
noncomputable def F_is_listed : FDen := dBody N_is_listed.length b_is_listed
noncomputable def b_copied (fr : FDen) : SDen := (dSeq (dIfS (dTst (dCal isiF (dCons (dVar 0) (dCons (dTup (dCons (dC (.ty "list")) (dCons (dC (.ty "tuple")) dNil))) dNil)))) (dRet (dCal tupF (dCons (dLc (iSeq (dVar 0)) (gNm 1) dYes (dCal fr (dCons (dVar 1) dNil)) [1]) dNil))) dNext) (dSeq (dIfS (dTst (dCal isiF (dCons (dVar 0) (dCons (dC (.ty "dict")) dNil)))) dDead dNext) (dRet (dVar 0))))
noncomputable def F_copied : Nat → FDen
  | 0 => dNo
  | n + 1 => dBody N_copied.length (b_copied (F_copied n))
noncomputable def b_is_row : SDen := (dRet (dAnd (dCal F_is_listed (dCons (dVar 0) dNil)) (dAnd (dOp eqQ (dCal lenF (dCons (dVar 0) dNil)) (dVar 1)) (dCal allF (dCons (dLc (iSeq (dVar 0)) (gNm 4) dYes (dCal F_is_between (dCons (dVar 4) (dCons (dVar 2) (dCons (dVar 3) dNil)))) [4]) dNil)))))
noncomputable def F_is_row : FDen := dBody N_is_row.length b_is_row
noncomputable def b_is_corner : SDen := (dSeq (dIfS (dTOr (dTNot (dTst (dCal F_is_listed (dCons (dVar 0) dNil)))) (dTOr (dTst (dOp neQ (dCal lenF (dCons (dVar 0) dNil)) (dC (.int 3)))) (dTNot (dTst (dCal F_is_between (dCons (dOp ixV (dVar 0) (dC (.int 0))) (dCons (dC (.int 0)) (dCons (dC (.int 120)) dNil)))))))) (dRet (dC (.bl false))) dNext) (dSeq (dIfS (dTOr (dTNot (dTst (dCal F_is_row (dCons (dOp ixV (dVar 0) (dC (.int 1))) (dCons (dVar 1) (dCons (dC (.int 1)) (dCons (dC (.int 1000000000)) dNil))))))) (dTNot (dTst (dCal F_is_row (dCons (dOp ixV (dVar 0) (dC (.int 2))) (dCons (dVar 1) (dCons (dC (.int 0)) (dCons (dC (.int 1000000000)) dNil)))))))) (dRet (dC (.bl false))) dNext) (dRet (dCal allF (dCons (dLc (iZip (dOp ixV (dVar 0) (dC (.int 1))) (dOp ixV (dVar 0) (dC (.int 2)))) (gTp 2 (gsCons (gNm 2) (gsCons (gNm 3) gsNil))) dYes (dOp qLe (dVar 3) (dVar 2)) [2, 3]) dNil)))))
noncomputable def F_is_corner : FDen := dBody N_is_corner.length b_is_corner
noncomputable def b_is_at_most : SDen := (dRet (dCal allF (dCons (dLc (iZip (dVar 0) (dVar 1)) (gTp 2 (gsCons (gNm 2) (gsCons (gNm 3) gsNil))) dYes (dOp qLe (dVar 2) (dVar 3)) [2, 3]) dNil)))
noncomputable def F_is_at_most : FDen := dBody N_is_at_most.length b_is_at_most
noncomputable def b_covers : SDen := (dRet (dAnd (dOp qLe (dOp ixV (dVar 0) (dC (.int 0))) (dOp ixV (dVar 1) (dC (.int 0)))) (dAnd (dCal F_is_at_most (dCons (dOp ixV (dVar 0) (dC (.int 1))) (dCons (dOp ixV (dVar 1) (dC (.int 1))) dNil))) (dCal F_is_at_most (dCons (dOp ixV (dVar 0) (dC (.int 2))) (dCons (dOp ixV (dVar 1) (dC (.int 2))) dNil))))))
noncomputable def F_covers : FDen := dBody N_covers.length b_covers
noncomputable def b_cut : SDen := (dSeq (dSet 1 (dLstO dNil)) (dSeq (dFor (iSeq (dCal sortF (dCons (dUniq (dVar 0)) dNil))) (gNm 2) (dIfS (dTNot (dTst (dCal anyF (dCons (dLc (iL (dVar 1)) (gNm 3) dYes (dCal F_covers (dCons (dVar 3) (dCons (dVar 2) dNil))) [3]) dNil)))) (dDrop (dAppend (dVar 1) (dVar 2))) dNext)) (dRet (dCal tupF (dCons (dVar 1) dNil)))))
noncomputable def F_cut : FDen := dBody N_cut.length b_cut
noncomputable def b_is_front : SDen := (dSeq (dIfS (dTOr (dTNot (dTst (dCal F_is_listed (dCons (dVar 0) dNil)))) (dTOr (dTst (dOp qGt (dCal lenF (dCons (dVar 0) dNil)) (dC (.int 12)))) (dTNot (dTst (dCal allF (dCons (dLc (iSeq (dVar 0)) (gNm 3) dYes (dCal F_is_corner (dCons (dVar 3) (dCons (dVar 1) dNil))) [3]) dNil)))))) (dRet (dC (.bl false))) dNext) (dSeq (dSet 2 (dCal (F_copied 5) (dCons (dVar 0) dNil))) (dRet (dOp eqQ (dVar 2) (dCal F_cut (dCons (dVar 2) dNil))))))
noncomputable def F_is_front : FDen := dBody N_is_front.length b_is_front
noncomputable def b_is_entry : SDen := (dSeq (dIfS (dTOr (dTNot (dTst (dCal F_is_listed (dCons (dVar 0) dNil)))) (dTOr (dTst (dOp neQ (dCal lenF (dCons (dVar 0) dNil)) (dC (.int 2)))) (dTNot (dTst (dCal isiF (dCons (dOp ixV (dVar 0) (dC (.int 0))) (dCons (dC (.ty "str")) dNil))))))) (dRet (dC (.bl false))) dNext) (dSeq (dIfS (dTst (dOp eqQ (dOp ixV (dVar 0) (dC (.int 0))) (dC (.str "drawn")))) (dRet (dAnd (dCal F_is_listed (dCons (dOp ixV (dVar 0) (dC (.int 1))) dNil)) (dOp eqQ (dCal lenF (dCons (dOp ixV (dVar 0) (dC (.int 1))) dNil)) (dC (.int 0))))) dNext) (dRet (dAnd (dOp qIn (dOp ixV (dVar 0) (dC (.int 0))) (dTup (dCons (dC (.str "won")) (dCons (dC (.str "lost")) dNil)))) (dAnd (dCal F_is_front (dCons (dOp ixV (dVar 0) (dC (.int 1))) (dCons (dVar 1) dNil))) (dOp qGt (dCal lenF (dCons (dOp ixV (dVar 0) (dC (.int 1))) dNil)) (dC (.int 0))))))))
noncomputable def F_is_entry : FDen := dBody N_is_entry.length b_is_entry
noncomputable def b__law_pen : SDen := (dRet (dLstO (dCons (dLc (iSeq (dSl slV (dVar 0) dNoPart (dPart (dC (.int 63))))) (gNm 1) dYes (dCal intF (dCons (dVar 1) dNil)) [1]) (dCons (dC (.int 0)) (dCons (dC (.int 0)) dNil)))))
noncomputable def F__law_pen : FDen := dBodyO N__law_pen.length b__law_pen
noncomputable def b__law_draw : SDen := (dSeq (dIfS (dTst (dOp qGt (dOp ixV (dVar 0) (dC (.int 2))) (dC (.int 0)))) (dSeq (dSet 5 (dCal intF (dCons (dOp ixV (dVar 0) (dC (.int 2))) dNil))) (dSeq (dSetIx (dOp qDiv (dVar 5) (dVar 1)) (dVar 0) (dC (.int 2))) (dRet (dOp qMod (dCal intF (dCons (dVar 5) dNil)) (dVar 1))))) dNext) (dSeq (dSet 2 (dOp ixV (dVar 0) (dC (.int 1)))) (dSeq (dSetIx (dOp qAdd (dVar 2) (dC (.int 1))) (dVar 0) (dC (.int 1))) (dSeq (dSet 3 (dOp qAdd (dOp qMul (dC (.int 61627)) (dVar 2)) (dC (.int 29201)))) (dSeq (dIfS (dTst (dOp neQ (dOp ixV (dVar 0) (dC (.int 0))) (dLst dNil))) (dSet 3 (dOp ixV (dOp ixV (dVar 0) (dC (.int 0))) (dOp qMod (dCal intF (dCons (dVar 2) dNil)) (dCal lenF (dCons (dOp ixV (dVar 0) (dC (.int 0))) dNil))))) dNext) (dSeq (dIfS (dTAnd (dTst (dOp qLt (dVar 2) (dCal lenF (dCons (dOp ixV (dVar 0) (dC (.int 0))) dNil)))) (dTst (dOp qGe (dCal absF (dCons (dVar 3) dNil)) (dOp qPow (dC (.int 10)) (dC (.int 18)))))) (dSeq (dSet 5 (dOp qAdd (dOp qMul (dC (.int 2)) (dOp qSub (dCal absF (dCons (dVar 3) dNil)) (dOp qPow (dC (.int 10)) (dC (.int 18))))) (dCal intF (dCons (dOp qLt (dVar 3) (dC (.int 0))) dNil)))) (dSeq (dSetIx (dOp qDiv (dCal intF (dCons (dVar 5) dNil)) (dVar 1)) (dVar 0) (dC (.int 2))) (dRet (dOp qMod (dCal intF (dCons (dVar 5) dNil)) (dVar 1))))) dNext) (dSeq (dSet 4 (dOp qMod (dCal intF (dCons (dOp qPow (dOp qAdd (dOp qAdd (dOp qMod (dCal intF (dCons (dVar 3) dNil)) (dC (.int 2147483549))) (dOp qMul (dC (.int 90373)) (dVar 2))) (dC (.int 2591))) (dC (.int 5))) dNil)) (dC (.int 2147483563)))) (dSeq (dSet 4 (dOp qMod (dCal intF (dCons (dOp qPow (dOp qAdd (dOp qAdd (dOp qMul (dVar 4) (dOp qAdd (dOp qMul (dC (.int 2)) (dVar 2)) (dC (.int 2591)))) (dOp qMul (dOp qMul (dC (.int 61627)) (dVar 2)) (dVar 2))) (dC (.int 90373))) (dC (.int 3))) dNil)) (dC (.int 2147483587)))) (dRet (dOp qMod (dCal intF (dCons (dOp qDiv (dVar 4) (dC (.int 64))) dNil)) (dVar 1)))))))))))
noncomputable def F__law_draw : FDen := dBody N__law_draw.length b__law_draw
noncomputable def b__law_pick : SDen := (dRet (dOp ixV (dVar 1) (dCal F__law_draw (dCons (dVar 0) (dCons (dCal lenF (dCons (dVar 1) dNil)) dNil)))))
noncomputable def F__law_pick : FDen := dBody N__law_pick.length b__law_pick
noncomputable def b__law_under : SDen := (dRet (dOp eqQ (dLc (iZip (dVar 0) (dVar 1)) (gTp 2 (gsCons (gNm 2) (gsCons (gNm 3) gsNil))) (dTst (dOp qGt (dVar 2) (dVar 3))) (dC (.int 1)) [2, 3]) (dLst dNil)))
noncomputable def F__law_under : FDen := dBody N__law_under.length b__law_under
noncomputable def b__law_flat : SDen := (dRet (dOp qAdd (dOp qAdd (dTup (dCons (dOp ixV (dVar 0) (dC (.int 0))) dNil)) (dOp ixV (dVar 0) (dC (.int 1)))) (dOp ixV (dVar 0) (dC (.int 2)))))
noncomputable def F__law_flat : FDen := dBody N__law_flat.length b__law_flat
noncomputable def b__law_cut : SDen := (dSeq (dSet 1 (dSS (dVar 0))) (dRet (dCal tupF (dCons (dLc (iSeq (dVar 1)) (gNm 2) (dTst (dOp eqQ (dLc (iSeq (dVar 1)) (gNm 3) (dTAnd (dTst (dOp neQ (dVar 3) (dVar 2))) (dTst (dCal F__law_under (dCons (dCal F__law_flat (dCons (dVar 3) dNil)) (dCons (dCal F__law_flat (dCons (dVar 2) dNil)) dNil))))) (dVar 3) [3]) (dLst dNil))) (dVar 2) [2]) dNil))))
noncomputable def F__law_cut : FDen := dBody N__law_cut.length b__law_cut
noncomputable def b__law_corner : SDen := (dSeq (dSet 2 (dCal tupF (dCons (dLc (iR1 (dVar 1)) (gNm 3) dYes (dOp qAdd (dC (.int 1)) (dCal F__law_draw (dCons (dVar 0) (dCons (dC (.int 5)) dNil)))) [3]) dNil))) (dRet (dTup (dCons (dCal F__law_draw (dCons (dVar 0) (dCons (dC (.int 7)) dNil))) (dCons (dVar 2) (dCons (dCal tupF (dCons (dLc (iSeq (dVar 2)) (gNm 4) dYes (dCal F__law_draw (dCons (dVar 0) (dCons (dOp qAdd (dVar 4) (dC (.int 1))) dNil))) [4]) dNil)) dNil))))))
noncomputable def F__law_corner : FDen := dBody N__law_corner.length b__law_corner
noncomputable def b__law_front : SDen := (dRet (dCal F__law_cut (dCons (dLc (iR1 (dOp qAdd (dC (.int 1)) (dCal F__law_draw (dCons (dVar 0) (dCons (dC (.int 5)) dNil))))) (gNm 2) dYes (dCal F__law_corner (dCons (dVar 0) (dCons (dVar 1) dNil))) [2]) dNil)))
noncomputable def F__law_front : FDen := dBody N__law_front.length b__law_front
noncomputable def b__law_is_int : SDen := (dRet (dAnd (dCal isiF (dCons (dVar 0) (dCons (dC (.ty "int")) dNil))) (dAnd (dNot (dCal isiF (dCons (dVar 0) (dCons (dC (.ty "bool")) dNil)))) (dChain qLe qLe (dVar 1) (dVar 0) (dVar 2)))))
noncomputable def F__law_is_int : FDen := dBody N__law_is_int.length b__law_is_int
noncomputable def b__law_is_listed : SDen := (dRet (dOr (dCal isiF (dCons (dVar 0) (dCons (dC (.ty "list")) dNil))) (dCal isiF (dCons (dVar 0) (dCons (dC (.ty "tuple")) dNil)))))
noncomputable def F__law_is_listed : FDen := dBody N__law_is_listed.length b__law_is_listed
noncomputable def b__law_is_corner : SDen := (dSeq (dIfS (dTOr (dTNot (dTst (dCal F__law_is_listed (dCons (dVar 0) dNil)))) (dTOr (dTst (dOp neQ (dCal lenF (dCons (dVar 0) dNil)) (dC (.int 3)))) (dTNot (dTst (dCal F__law_is_int (dCons (dOp ixV (dVar 0) (dC (.int 0))) (dCons (dC (.int 0)) (dCons (dC (.int 120)) dNil)))))))) (dRet (dC (.bl false))) dNext) (dSeq (dFor (iSeq (dTup (dCons (dTup (dCons (dOp ixV (dVar 0) (dC (.int 1))) (dCons (dC (.int 1)) dNil))) (dCons (dTup (dCons (dOp ixV (dVar 0) (dC (.int 2))) (dCons (dC (.int 0)) dNil))) dNil)))) (gTp 2 (gsCons (gNm 2) (gsCons (gNm 3) gsNil))) (dIfS (dTOr (dTNot (dTst (dCal F__law_is_listed (dCons (dVar 2) dNil)))) (dTOr (dTst (dOp neQ (dCal lenF (dCons (dVar 2) dNil)) (dVar 1))) (dTst (dOp neQ (dLc (iSeq (dVar 2)) (gNm 6) (dTNot (dTst (dCal F__law_is_int (dCons (dVar 6) (dCons (dVar 3) (dCons (dOp qPow (dC (.int 10)) (dC (.int 9))) dNil)))))) (dVar 6) [6]) (dLst dNil))))) (dRet (dC (.bl false))) dNext)) (dRet (dOp eqQ (dLc (iZip (dOp ixV (dVar 0) (dC (.int 1))) (dOp ixV (dVar 0) (dC (.int 2)))) (gTp 2 (gsCons (gNm 4) (gsCons (gNm 5) gsNil))) (dTst (dOp qGt (dVar 5) (dVar 4))) (dC (.int 1)) [4, 5]) (dLst dNil)))))
noncomputable def F__law_is_corner : FDen := dBody N__law_is_corner.length b__law_is_corner
noncomputable def b__law_is_front : SDen := (dSeq (dIfS (dTOr (dTNot (dTst (dCal F__law_is_listed (dCons (dVar 0) dNil)))) (dTOr (dTst (dOp qGt (dCal lenF (dCons (dVar 0) dNil)) (dC (.int 12)))) (dTst (dOp neQ (dLc (iSeq (dVar 0)) (gNm 3) (dTNot (dTst (dCal F__law_is_corner (dCons (dVar 3) (dCons (dVar 1) dNil))))) (dVar 3) [3]) (dLst dNil))))) (dRet (dC (.bl false))) dNext) (dSeq (dSet 2 (dCal tupF (dCons (dLc (iSeq (dVar 0)) (gNm 3) dYes (dTup (dCons (dOp ixV (dVar 3) (dC (.int 0))) (dCons (dCal tupF (dCons (dOp ixV (dVar 3) (dC (.int 1))) dNil)) (dCons (dCal tupF (dCons (dOp ixV (dVar 3) (dC (.int 2))) dNil)) dNil)))) [3]) dNil))) (dRet (dOp eqQ (dVar 2) (dCal F__law_cut (dCons (dCal listF (dCons (dVar 2) dNil)) dNil))))))
noncomputable def F__law_is_front : FDen := dBody N__law_is_front.length b__law_is_front
noncomputable def b__law_near_to (fr : FDen) : SDen := (dSeq (dIfS (dTAnd (dTst (dCal F__law_is_listed (dCons (dVar 1) dNil))) (dTAnd (dTst (dOp qGt (dCal lenF (dCons (dVar 1) dNil)) (dC (.int 0)))) (dTst (dOp qGt (dCal F__law_draw (dCons (dVar 0) (dCons (dC (.int 4)) dNil))) (dC (.int 0)))))) (dSeq (dSet 2 (dCal F__law_draw (dCons (dVar 0) (dCons (dCal lenF (dCons (dVar 1) dNil)) dNil)))) (dRet (dOp qAdd (dOp qAdd (dCal listF (dCons (dSl slV (dVar 1) dNoPart (dPart (dVar 2))) dNil)) (dLst (dCons (dCal fr (dCons (dVar 0) (dCons (dOp ixV (dVar 1) (dVar 2)) dNil))) dNil))) (dCal listF (dCons (dSl slV (dVar 1) (dPart (dOp qAdd (dVar 2) (dC (.int 1)))) dNoPart) dNil))))) dNext) (dSeq (dIfS (dTst (dCal F__law_is_listed (dCons (dVar 1) dNil))) (dRet (dCal F__law_pick (dCons (dVar 0) (dCons (dLst (dCons (dOp qMul (dCal listF (dCons (dVar 1) dNil)) (dC (.int 2))) (dCons (dSl slV (dCal listF (dCons (dVar 1) dNil)) (dPart (dC (.int 1))) dNoPart) (dCons (dRev (dCal listF (dCons (dVar 1) dNil))) (dCons (dC .non) (dCons (dC (.str "ab")) (dCons (dC (.dct [] [])) dNil))))))) dNil)))) dNext) (dSeq (dIfS (dTst (dCal F__law_is_int (dCons (dVar 1) (dCons (dC (.int 0)) (dCons (dOp qPow (dC (.int 10)) (dC (.int 9))) dNil))))) (dRet (dCal F__law_pick (dCons (dVar 0) (dCons (dLst (dCons (dOp qAdd (dVar 1) (dC (.int 1))) (dCons (dOp qSub (dVar 1) (dC (.int 1))) (dCons (dC (.int 0)) (dCons (dC (.int 1)) (dCons (dOp qPow (dC (.int 10)) (dC (.int 9))) (dCons (dOp qAdd (dOp qPow (dC (.int 10)) (dC (.int 9))) (dC (.int 1))) (dCons (dC (.int 120)) (dCons (dC (.int 121)) (dCons (dC (.bl true)) (dCons (dCal strF (dCons (dVar 1) dNil)) (dCons (dC .non) dNil)))))))))))) dNil)))) dNext) (dRet (dCal F__law_pick (dCons (dVar 0) (dCons (dLst (dCons (dC (.str "won")) (dCons (dC (.str "lost")) (dCons (dC (.str "drawn")) (dCons (dC .non) (dCons (dC (.int 5)) dNil)))))) dNil)))))))
noncomputable def F__law_near_to : Nat → FDen
  | 0 => dNo
  | n + 1 => dBody N__law_near_to.length (b__law_near_to (F__law_near_to n))
noncomputable def b_law : SDen := (dSeq (dSet 1 (dCal F__law_pen (dCons (dVar 0) dNil))) (dSeq (dFor (iR1 (dC (.int 12))) (gNm 2) (dSeq (dSet 4 (dOp qAdd (dC (.int 1)) (dCal F__law_draw (dCons (dVar 1) (dCons (dC (.int 3)) dNil))))) (dSeq (dSet 5 (dCal F__law_front (dCons (dVar 1) (dCons (dVar 4) dNil)))) (dSeq (dSet 6 (dLc (iR1 (dCal F__law_draw (dCons (dVar 1) (dCons (dC (.int 4)) dNil)))) (gNm 9) dYes (dCal F__law_corner (dCons (dVar 1) (dCons (dVar 4) dNil))) [9])) (dFor (iSeq (dOp qAdd (dLst (dCons (dVar 5) (dCons (dLc (iSeq (dVar 5)) (gNm 15) dYes (dCal listF (dCons (dVar 15) dNil)) [15]) (dCons (dCal tupF (dCons (dVar 6) dNil)) (dCons (dRev (dVar 6)) (dCons (dTup dNil) dNil)))))) (dLc (iR1 (dC (.int 5))) (gNm 14) dYes (dCal (F__law_near_to 5) (dCons (dVar 1) (dCons (dVar 5) dNil))) [14]))) (gNm 7) (dFor (iSeq (dTup (dCons (dVar 4) (dCons (dOp qAdd (dC (.int 1)) (dCal F__law_draw (dCons (dVar 1) (dCons (dC (.int 3)) dNil)))) dNil)))) (gNm 8) (dSeq (dSet 10 (dCal F__law_is_front (dCons (dVar 7) (dCons (dVar 8) dNil)))) (dSeq (dIfS (dTst (dOp neQ (dCal reprG (dCons (dLst (dCons (dCal F_is_front (dCons (dVar 7) (dCons (dVar 8) dNil))) (dCons (dCalK F_is_front [1, 0] (dCons (dVar 8) (dCons (dVar 7) dNil))) dNil))) dNil)) (dCal reprG (dCons (dLst (dCons (dVar 10) (dCons (dVar 10) dNil))) dNil)))) (dRet (dC (.bl false))) dNext) (dSeq (dSet 11 (dCal F__law_pick (dCons (dVar 1) (dCons (dLst (dCons (dTup (dCons (dC (.str "won")) (dCons (dVar 7) dNil))) (dCons (dLst (dCons (dC (.str "lost")) (dCons (dVar 7) dNil))) (dCons (dTup (dCons (dC (.str "drawn")) (dCons (dVar 7) dNil))) (dCons (dTup (dCons (dC (.str "won")) (dCons (dVar 7) (dCons (dC .non) dNil)))) (dCons (dTup (dCons (dC (.str "gone")) (dCons (dVar 7) dNil))) (dCons (dTup (dCons (dC .non) (dCons (dVar 7) dNil))) (dCons (dC (.str "won")) dNil)))))))) dNil)))) (dSeq (dSet 12 (dAnd (dNot (dCal isiF (dCons (dVar 11) (dCons (dC (.ty "str")) dNil)))) (dAnd (dOp eqQ (dCal lenF (dCons (dVar 11) dNil)) (dC (.int 2))) (dAnd (dOp qIn (dOp ixV (dVar 11) (dC (.int 0))) (dTup (dCons (dC (.str "won")) (dCons (dC (.str "lost")) dNil)))) (dAnd (dVar 10) (dOp qGt (dCal lenF (dCons (dVar 7) dNil)) (dC (.int 0)))))))) (dSeq (dSet 13 (dAnd (dNot (dCal isiF (dCons (dVar 11) (dCons (dC (.ty "str")) dNil)))) (dAnd (dOp eqQ (dCal lenF (dCons (dVar 11) dNil)) (dC (.int 2))) (dAnd (dOp eqQ (dOp ixV (dVar 11) (dC (.int 0))) (dC (.str "drawn"))) (dAnd (dCal F__law_is_listed (dCons (dVar 7) dNil)) (dOp eqQ (dCal lenF (dCons (dVar 7) dNil)) (dC (.int 0)))))))) (dIfS (dTst (dOp neQ (dCal reprG (dCons (dCal F_is_entry (dCons (dVar 11) (dCons (dVar 8) dNil))) dNil)) (dCal reprG (dCons (dOr (dVar 12) (dVar 13)) dNil)))) (dRet (dC (.bl false))) dNext)))))))))))) (dSeq (dSet 3 (dLc (iR1 (dC (.int 13))) (gNm 9) dYes (dTup (dCons (dVar 9) (dCons (dTup (dCons (dOp qSub (dC (.int 13)) (dVar 9)) dNil)) (dCons (dTup (dCons (dC (.int 0)) dNil)) dNil)))) [9])) (dSeq (dIfS (dTst (dOp neQ (dLst (dCons (dCal F_is_front (dCons (dVar 3) (dCons (dC (.int 1)) dNil))) (dCons (dCal F_is_front (dCons (dSl slV (dVar 3) (dPart (dC (.int 1))) dNoPart) (dCons (dC (.int 1)) dNil))) (dCons (dCal F_is_entry (dCons (dTup (dCons (dC (.str "won")) (dCons (dVar 3) dNil))) (dCons (dC (.int 1)) dNil))) (dCons (dCalK F_is_entry [0, 1] (dCons (dTup (dCons (dC (.str "won")) (dCons (dSl slV (dVar 3) dNoPart (dPart (dC (.int 12)))) dNil))) (dCons (dC (.int 1)) dNil))) dNil))))) (dLst (dCons (dC (.bl false)) (dCons (dC (.bl true)) (dCons (dC (.bl false)) (dCons (dC (.bl true)) dNil))))))) (dRet (dC (.bl false))) dNext) (dRet (dAnd (dOp qIs (dCal F_is_entry (dCons (dTup (dCons (dC (.str "drawn")) (dCons (dLst dNil) dNil))) (dCons (dC (.int 3)) dNil))) (dC (.bl true))) (dOp eqQ (dLc (iSeq (dTup (dCons (dC .non) (dCons (dC (.int 5)) (dCons (dTup dNil) (dCons (dC (.str "drawn")) (dCons (dC (.dct [] [])) dNil))))))) (gNm 15) (dTst (dCal F_is_entry (dCons (dVar 15) (dCons (dC (.int 1)) dNil)))) (dVar 15) [15]) (dLst dNil))))))))
noncomputable def F_law : FDen := dBody N_law.length b_law
/-! ### what the module holds -/
structure Mo (K : PySem.W.Frag) (mg : Str → Option Value) : Prop where
  d_is_integer : Def K mg "is_integer" s_is_integer ["value"]
  d_is_between : Def K mg "is_between" s_is_between ["value", "least", "most"]
  d_is_listed : Def K mg "is_listed" s_is_listed ["value"]
  d_copied : Def K mg "copied" s_copied ["value"]
  d_is_row : Def K mg "is_row" s_is_row ["value", "many", "least", "most"]
  d_is_corner : Def K mg "is_corner" s_is_corner ["value", "many"]
  d_is_at_most : Def K mg "is_at_most" s_is_at_most ["one", "other"]
  d_covers : Def K mg "covers" s_covers ["one", "other"]
  d_cut : Def K mg "cut" s_cut ["corners"]
  d_is_front : Def K mg "is_front" s_is_front ["value", "many"]
  d_is_entry : Def K mg "is_entry" s_is_entry ["value", "many"]
  d__law_pen : Def K mg "_law_pen" s__law_pen ["script"]
  d__law_draw : Def K mg "_law_draw" s__law_draw ["pen", "many"]
  d__law_pick : Def K mg "_law_pick" s__law_pick ["pen", "some"]
  d__law_under : Def K mg "_law_under" s__law_under ["one", "other"]
  d__law_flat : Def K mg "_law_flat" s__law_flat ["corner"]
  d__law_cut : Def K mg "_law_cut" s__law_cut ["corners"]
  d__law_corner : Def K mg "_law_corner" s__law_corner ["pen", "many"]
  d__law_front : Def K mg "_law_front" s__law_front ["pen", "many"]
  d__law_is_int : Def K mg "_law_is_int" s__law_is_int ["value", "fewest", "most"]
  d__law_is_listed : Def K mg "_law_is_listed" s__law_is_listed ["value"]
  d__law_is_corner : Def K mg "_law_is_corner" s__law_is_corner ["value", "many"]
  d__law_is_front : Def K mg "_law_is_front" s__law_is_front ["value", "many"]
  d__law_near_to : Def K mg "_law_near_to" s__law_near_to ["pen", "value"]
  d_law : Def K mg "law" s_law ["script"]
  n_abs : mg "abs" = none
  n_all : mg "all" = none
  n_any : mg "any" = none
  n_bool : mg "bool" = none
  n_dict : mg "dict" = none
  n_int : mg "int" = none
  n_isinstance : mg "isinstance" = none
  n_len : mg "len" = none
  n_list : mg "list" = none
  n_range : mg "range" = none
  n_repr : mg "repr" = none
  n_set : mg "set" = none
  n_sorted : mg "sorted" = none
  n_str : mg "str" = none
  n_tuple : mg "tuple" = none
  n_zip : mg "zip" = none
  v_LOST : ∃ t, mg "LOST" = some (.str "lost" t)
  v_MOST_CORNERS : ∃ t, mg "MOST_CORNERS" = some (.int 12 t)
  v_MOST_LIMIT : ∃ t, mg "MOST_LIMIT" = some (.int 1000000000 t)
  v_MOST_PLIES : ∃ t, mg "MOST_PLIES" = some (.int 120 t)
  v_WON : ∃ t, mg "WON" = some (.str "won" t)
/-! ### the defs keep to their denotations -/
section
variable {P : Program} {w : World} {K : PySem.W.Frag} {mg : Str → Option Value} {base : Heap}
theorem ok_is_integer (M : Mo K mg) : FnD P w K mg base "is_integer" ["value"] F_is_integer 1 := by
  refine M.d_is_integer.fn (b := b_is_integer) (k := 0) sc_is_integer fun f cdv A outer s H E hr => ?_
  have hu : (A.deeper (envOfC "is_integer" (defScope s_is_integer) s.heap.objs.size f cdv)).units + 70 < cLine := by have := hr.un; omega
  have hu64 : (A.deeper (envOfC "is_integer" (defScope s_is_integer) s.heap.objs.size f cdv)).units + 64 < cLine := by have := hr.un; omega
  unfold b_is_integer
  exact ⟨_, (dss_one (ds_ret (de_and (de_callB (cad_isix K) (by rfl) M.n_isinstance bt_isinstance (da_cons (de_var 0 (pv 0)) (da_cons (de_ty (by rfl) M.n_int bt_int) da_nil))) (de_one (de_not (de_callB (cad_isix K) (by rfl) M.n_isinstance bt_isinstance (da_cons (de_var 0 (pv 0)) (da_cons (de_ty (by rfl) M.n_bool bt_bool) da_nil))))))))⟩
theorem ok_is_between (M : Mo K mg) : FnD P w K mg base "is_between" ["value", "least", "most"] F_is_between 2 := by
  refine M.d_is_between.fn (b := b_is_between) (k := 1) sc_is_between fun f cdv A outer s H E hr => ?_
  have hu : (A.deeper (envOfC "is_between" (defScope s_is_between) s.heap.objs.size f cdv)).units + 70 < cLine := by have := hr.un; omega
  have hu64 : (A.deeper (envOfC "is_between" (defScope s_is_between) s.heap.objs.size f cdv)).units + 64 < cLine := by have := hr.un; omega
  unfold b_is_between
  exact ⟨_, (dss_one (ds_ret (de_and (de_callx (ok_is_integer M) (hr.mono (by decide)) (by rfl) (da_cons (de_var 0 (pv 0)) da_nil) (len_cons len_nil)) (de_one (de_chain cmd_le cmd_le (de_var 1 (pv 1)) (de_var 0 (pv 0)) (de_var 2 (pv 2)))))))⟩
theorem ok_is_listed (M : Mo K mg) : FnD P w K mg base "is_listed" ["value"] F_is_listed 1 := by
  refine M.d_is_listed.fn (b := b_is_listed) (k := 0) sc_is_listed fun f cdv A outer s H E hr => ?_
  have hu : (A.deeper (envOfC "is_listed" (defScope s_is_listed) s.heap.objs.size f cdv)).units + 70 < cLine := by have := hr.un; omega
  have hu64 : (A.deeper (envOfC "is_listed" (defScope s_is_listed) s.heap.objs.size f cdv)).units + 64 < cLine := by have := hr.un; omega
  unfold b_is_listed
  exact ⟨_, (dss_one (ds_ret (de_callB (cad_isix K) (by rfl) M.n_isinstance bt_isinstance (da_cons (de_var 0 (pv 0)) (da_cons (de_tup (da_cons (de_ty (by rfl) M.n_list bt_list) (da_cons (de_ty (by rfl) M.n_tuple bt_tuple) da_nil))) da_nil)))))⟩
theorem ok_copied (M : Mo K mg) : ∀ n : Nat, FnD P w K mg base "copied" ["value"] (F_copied n) (0 + n)
  | 0 => M.d_copied.no.mono (Nat.zero_le _)
  | n + 1 => by
    have FR : FnD P w K mg base "copied" ["value"] (F_copied n) (0 + n) := ok_copied M n
    refine FnD.mono (M.d_copied.fn (b := b_copied (F_copied n)) (k := 0 + n) sc_copied fun f cdv A outer s H E hr => ?_) (Nat.le_refl _)
    have hu : (A.deeper (envOfC "copied" (defScope s_copied) s.heap.objs.size f cdv)).units + 70 < cLine := by have := hr.un; omega
    have hu64 : (A.deeper (envOfC "copied" (defScope s_copied) s.heap.objs.size f cdv)).units + 64 < cLine := by have := hr.un; omega
    unfold b_copied
    exact ⟨_, (dss_cons (ds_if (dt_val (de_callB (cad_isix K) (by rfl) M.n_isinstance bt_isinstance (da_cons (de_var 0 (pv 0)) (da_cons (de_tup (da_cons (de_ty (by rfl) M.n_list bt_list) (da_cons (de_ty (by rfl) M.n_tuple bt_tuple) da_nil))) da_nil)))) (dss_one (ds_ret (de_callTy (cad_tupx K) (by rfl) M.n_tuple bt_tuple (da_cons (de_lc (own := [("one", 1)]) rfl sc_copied.nd (di_seqx K (de_var 0 (pv 0))) (blkOk_by (by rfl)) (fun _ _ _ _ _ => by exact (dg_name (i := 1) sc_copied.nd rfl (by first | exact .inl rfl | exact .inr rfl))) (by decide) (fun _ _ _ _ _ => by exact dts_nil) (fun _ _ _ _ _ => by exact (de_callx FR (hr.mono (by omega)) (by rfl) (da_cons (de_var 1 (pv 1)) da_nil) (len_cons len_nil)))) da_nil)))) dss_nil) (dss_cons (ds_if (dt_val (de_callB (cad_isix K) (by rfl) M.n_isinstance bt_isinstance (da_cons (de_var 0 (pv 0)) (da_cons (de_ty (by rfl) M.n_dict bt_dict) da_nil)))) dss_dead dss_nil) (dss_one (ds_ret (de_var 0 (pv 0))))))⟩
theorem ok_is_row (M : Mo K mg) : FnD P w K mg base "is_row" ["value", "many", "least", "most"] F_is_row 3 := by
  refine M.d_is_row.fn (b := b_is_row) (k := 2) sc_is_row fun f cdv A outer s H E hr => ?_
  have hu : (A.deeper (envOfC "is_row" (defScope s_is_row) s.heap.objs.size f cdv)).units + 70 < cLine := by have := hr.un; omega
  have hu64 : (A.deeper (envOfC "is_row" (defScope s_is_row) s.heap.objs.size f cdv)).units + 64 < cLine := by have := hr.un; omega
  unfold b_is_row
  exact ⟨_, (dss_one (ds_ret (de_and (de_callx (ok_is_listed M) (hr.mono (by decide)) (by rfl) (da_cons (de_var 0 (pv 0)) da_nil) (len_cons len_nil)) (de_and (de_cmp (cmd_eqx K hu64) (de_callB (cad_lenx K) (by rfl) M.n_len bt_len (da_cons (de_var 0 (pv 0)) da_nil)) (de_var 1 (pv 1))) (de_one (de_callB (cad_allx K) (by rfl) M.n_all bt_all (da_cons (de_lc (own := [("one", 4)]) rfl sc_is_row.nd (di_seqx K (de_var 0 (pv 0))) (blkOk_by (by rfl)) (fun _ _ _ _ _ => by exact (dg_name (i := 4) sc_is_row.nd rfl (by first | exact .inl rfl | exact .inr rfl))) (by decide) (fun _ _ _ _ _ => by exact dts_nil) (fun _ _ _ _ _ => by exact (de_callx (ok_is_between M) (hr.mono (by decide)) (by rfl) (da_cons (de_var 4 (pv 4)) (da_cons (de_var 2 (pv 2)) (da_cons (de_var 3 (pv 3)) da_nil))) (len_cons (len_cons (len_cons len_nil)))))) da_nil)))))))⟩
theorem ok_is_corner (M : Mo K mg) : FnD P w K mg base "is_corner" ["value", "many"] F_is_corner 4 := by
  obtain ⟨_, v_MOST_LIMIT⟩ := M.v_MOST_LIMIT
  obtain ⟨_, v_MOST_PLIES⟩ := M.v_MOST_PLIES
  refine M.d_is_corner.fn (b := b_is_corner) (k := 3) sc_is_corner fun f cdv A outer s H E hr => ?_
  have hu : (A.deeper (envOfC "is_corner" (defScope s_is_corner) s.heap.objs.size f cdv)).units + 70 < cLine := by have := hr.un; omega
  have hu64 : (A.deeper (envOfC "is_corner" (defScope s_is_corner) s.heap.objs.size f cdv)).units + 64 < cLine := by have := hr.un; omega
  unfold b_is_corner
  exact ⟨_, (dss_cons (ds_if (dt_w (dw_or (dt_not (dt_val (de_callx (ok_is_listed M) (hr.mono (by decide)) (by rfl) (da_cons (de_var 0 (pv 0)) da_nil) (len_cons len_nil)))) (dw_or (dt_cmp (cmd_nex K hu64) (de_callB (cad_lenx K) (by rfl) M.n_len bt_len (da_cons (de_var 0 (pv 0)) da_nil)) de_int) (dw_or1 (dt_not (dt_val (de_callx (ok_is_between M) (hr.mono (by decide)) (by rfl) (da_cons (de_ix (ixdx K) (de_var 0 (pv 0)) de_int (fun _ _ => rfl)) (da_cons de_int (da_cons (de_gint (by rfl) v_MOST_PLIES) da_nil))) (len_cons (len_cons (len_cons len_nil)))))))))) (dss_one (ds_ret de_bl)) dss_nil) (dss_cons (ds_if (dt_w (dw_or (dt_not (dt_val (de_callx (ok_is_row M) (hr.mono (by decide)) (by rfl) (da_cons (de_ix (ixdx K) (de_var 0 (pv 0)) de_int (fun _ _ => rfl)) (da_cons (de_var 1 (pv 1)) (da_cons de_int (da_cons (de_gint (by rfl) v_MOST_LIMIT) da_nil)))) (len_cons (len_cons (len_cons (len_cons len_nil))))))) (dw_or1 (dt_not (dt_val (de_callx (ok_is_row M) (hr.mono (by decide)) (by rfl) (da_cons (de_ix (ixdx K) (de_var 0 (pv 0)) de_int (fun _ _ => rfl)) (da_cons (de_var 1 (pv 1)) (da_cons de_int (da_cons (de_gint (by rfl) v_MOST_LIMIT) da_nil)))) (len_cons (len_cons (len_cons (len_cons len_nil)))))))))) (dss_one (ds_ret de_bl)) dss_nil) (dss_one (ds_ret (de_callB (cad_allx K) (by rfl) M.n_all bt_all (da_cons (de_lc (own := [("limit", 2), ("rest", 3)]) rfl sc_is_corner.nd (di_zipx K (by rfl) M.n_zip (de_ix (ixdx K) (de_var 0 (pv 0)) de_int (fun _ _ => rfl)) (de_ix (ixdx K) (de_var 0 (pv 0)) de_int (fun _ _ => rfl))) (blkOk_by (by rfl)) (fun _ _ _ _ _ => by exact (dg_tupx K rfl (dgs_cons (dg_name (i := 2) sc_is_corner.nd rfl (by first | exact .inl rfl | exact .inr rfl)) (dgs_cons (dg_name (i := 3) sc_is_corner.nd rfl (by first | exact .inl rfl | exact .inr rfl)) dgs_nil)))) (by decide) (fun _ _ _ _ _ => by exact dts_nil) (fun _ _ _ _ _ => by exact (de_cmp cmd_le (de_var 3 (pv 3)) (de_var 2 (pv 2))))) da_nil))))))⟩
theorem ok_is_at_most (M : Mo K mg) : FnD P w K mg base "is_at_most" ["one", "other"] F_is_at_most 1 := by
  refine M.d_is_at_most.fn (b := b_is_at_most) (k := 0) sc_is_at_most fun f cdv A outer s H E hr => ?_
  have hu : (A.deeper (envOfC "is_at_most" (defScope s_is_at_most) s.heap.objs.size f cdv)).units + 70 < cLine := by have := hr.un; omega
  have hu64 : (A.deeper (envOfC "is_at_most" (defScope s_is_at_most) s.heap.objs.size f cdv)).units + 64 < cLine := by have := hr.un; omega
  unfold b_is_at_most
  exact ⟨_, (dss_one (ds_ret (de_callB (cad_allx K) (by rfl) M.n_all bt_all (da_cons (de_lc (own := [("mine", 2), ("its", 3)]) rfl sc_is_at_most.nd (di_zipx K (by rfl) M.n_zip (de_var 0 (pv 0)) (de_var 1 (pv 1))) (blkOk_by (by rfl)) (fun _ _ _ _ _ => by exact (dg_tupx K rfl (dgs_cons (dg_name (i := 2) sc_is_at_most.nd rfl (by first | exact .inl rfl | exact .inr rfl)) (dgs_cons (dg_name (i := 3) sc_is_at_most.nd rfl (by first | exact .inl rfl | exact .inr rfl)) dgs_nil)))) (by decide) (fun _ _ _ _ _ => by exact dts_nil) (fun _ _ _ _ _ => by exact (de_cmp cmd_le (de_var 2 (pv 2)) (de_var 3 (pv 3))))) da_nil))))⟩
theorem ok_covers (M : Mo K mg) : FnD P w K mg base "covers" ["one", "other"] F_covers 2 := by
  refine M.d_covers.fn (b := b_covers) (k := 1) sc_covers fun f cdv A outer s H E hr => ?_
  have hu : (A.deeper (envOfC "covers" (defScope s_covers) s.heap.objs.size f cdv)).units + 70 < cLine := by have := hr.un; omega
  have hu64 : (A.deeper (envOfC "covers" (defScope s_covers) s.heap.objs.size f cdv)).units + 64 < cLine := by have := hr.un; omega
  unfold b_covers
  exact ⟨_, (dss_one (ds_ret (de_and (de_cmp cmd_le (de_ix (ixdx K) (de_var 0 (pv 0)) de_int (fun _ _ => rfl)) (de_ix (ixdx K) (de_var 1 (pv 1)) de_int (fun _ _ => rfl))) (de_and (de_callx (ok_is_at_most M) (hr.mono (by decide)) (by rfl) (da_cons (de_ix (ixdx K) (de_var 0 (pv 0)) de_int (fun _ _ => rfl)) (da_cons (de_ix (ixdx K) (de_var 1 (pv 1)) de_int (fun _ _ => rfl)) da_nil)) (len_cons (len_cons len_nil))) (de_one (de_callx (ok_is_at_most M) (hr.mono (by decide)) (by rfl) (da_cons (de_ix (ixdx K) (de_var 0 (pv 0)) de_int (fun _ _ => rfl)) (da_cons (de_ix (ixdx K) (de_var 1 (pv 1)) de_int (fun _ _ => rfl)) da_nil)) (len_cons (len_cons len_nil))))))))⟩
theorem ok_cut (M : Mo K mg) : FnD P w K mg base "cut" ["corners"] F_cut 3 := by
  refine M.d_cut.fn (b := b_cut) (k := 2) sc_cut fun f cdv A outer s H E hr => ?_
  have hu : (A.deeper (envOfC "cut" (defScope s_cut) s.heap.objs.size f cdv)).units + 70 < cLine := by have := hr.un; omega
  have hu64 : (A.deeper (envOfC "cut" (defScope s_cut) s.heap.objs.size f cdv)).units + 64 < cLine := by have := hr.un; omega
  unfold b_cut
  exact ⟨_, (dss_cons (ds_set (i := 1) sc_cut.nd rfl (by first | exact .inl rfl | exact .inr rfl) (de_lstO da_nil)) (dss_cons (ds_for rfl PassesOwn.never (di_seqx K (de_callB (cad_sortedx K hu) (by rfl) M.n_sorted bt_sorted (da_cons (de_uniq rfl hu (by rfl) M.n_list (de_var 0 (pv 0)) rfl (by decide +kernel) (by decide +kernel)) da_nil))) (dg_name (i := 2) sc_cut.nd rfl (by first | exact .inl rfl | exact .inr rfl)) (dss_one (ds_if (dt_not (dt_val (de_callB (cad_anyx K) (by rfl) M.n_any bt_any (da_cons (de_lc (own := [("other", 3)]) rfl sc_cut.nd (di_listx K (de_var 1 (pv 1))) (blkOk_by (by rfl)) (fun _ _ _ _ _ => by exact (dg_name (i := 3) sc_cut.nd rfl (by first | exact .inl rfl | exact .inr rfl))) (by decide) (fun _ _ _ _ _ => by exact dts_nil) (fun _ _ _ _ _ => by exact (de_callx (ok_covers M) (hr.mono (by decide)) (by rfl) (da_cons (de_var 3 (pv 3)) (da_cons (de_var 2 (pv 2)) da_nil)) (len_cons (len_cons len_nil))))) da_nil)))) (dss_one (ds_expr (de_append (de_var 1 (pv 1)) (de_var 2 (pv 2)) (pe_bm PySem.F.plainAttrs_list PySem.F.slot_list_append PySem.F.type_list_append mt_append ((de_var 1 (pv 1))).pe (pa_cons ((de_var 2 (pv 2))).pe pa_nil))))) dss_nil))) (dss_one (ds_ret (de_callTy (cad_tupx K) (by rfl) M.n_tuple bt_tuple (da_cons (de_var 1 (pv 1)) da_nil))))))⟩
theorem ok_is_front (M : Mo K mg) : FnD P w K mg base "is_front" ["value", "many"] F_is_front 6 := by
  obtain ⟨_, v_MOST_CORNERS⟩ := M.v_MOST_CORNERS
  refine M.d_is_front.fn (b := b_is_front) (k := 5) sc_is_front fun f cdv A outer s H E hr => ?_
  have hu : (A.deeper (envOfC "is_front" (defScope s_is_front) s.heap.objs.size f cdv)).units + 70 < cLine := by have := hr.un; omega
  have hu64 : (A.deeper (envOfC "is_front" (defScope s_is_front) s.heap.objs.size f cdv)).units + 64 < cLine := by have := hr.un; omega
  unfold b_is_front
  exact ⟨_, (dss_cons (ds_if (dt_w (dw_or (dt_not (dt_val (de_callx (ok_is_listed M) (hr.mono (by decide)) (by rfl) (da_cons (de_var 0 (pv 0)) da_nil) (len_cons len_nil)))) (dw_or (dt_cmp cmd_gt (de_callB (cad_lenx K) (by rfl) M.n_len bt_len (da_cons (de_var 0 (pv 0)) da_nil)) (de_gint (by rfl) v_MOST_CORNERS)) (dw_or1 (dt_not (dt_val (de_callB (cad_allx K) (by rfl) M.n_all bt_all (da_cons (de_lc (own := [("one", 3)]) rfl sc_is_front.nd (di_seqx K (de_var 0 (pv 0))) (blkOk_by (by rfl)) (fun _ _ _ _ _ => by exact (dg_name (i := 3) sc_is_front.nd rfl (by first | exact .inl rfl | exact .inr rfl))) (by decide) (fun _ _ _ _ _ => by exact dts_nil) (fun _ _ _ _ _ => by exact (de_callx (ok_is_corner M) (hr.mono (by decide)) (by rfl) (da_cons (de_var 3 (pv 3)) (da_cons (de_var 1 (pv 1)) da_nil)) (len_cons (len_cons len_nil))))) da_nil)))))))) (dss_one (ds_ret de_bl)) dss_nil) (dss_cons (ds_set (i := 2) sc_is_front.nd rfl (by first | exact .inl rfl | exact .inr rfl) (de_callx (ok_copied M 5) (hr.mono (by decide)) (by rfl) (da_cons (de_var 0 (pv 0)) da_nil) (len_cons len_nil))) (dss_one (ds_ret (de_cmp (cmd_eqx K hu64) (de_var 2 (pv 2)) (de_callx (ok_cut M) (hr.mono (by decide)) (by rfl) (da_cons (de_var 2 (pv 2)) da_nil) (len_cons len_nil)))))))⟩
theorem ok_is_entry (M : Mo K mg) : FnD P w K mg base "is_entry" ["value", "many"] F_is_entry 7 := by
  obtain ⟨_, v_LOST⟩ := M.v_LOST
  obtain ⟨_, v_WON⟩ := M.v_WON
  refine M.d_is_entry.fn (b := b_is_entry) (k := 6) sc_is_entry fun f cdv A outer s H E hr => ?_
  have hu : (A.deeper (envOfC "is_entry" (defScope s_is_entry) s.heap.objs.size f cdv)).units + 70 < cLine := by have := hr.un; omega
  have hu64 : (A.deeper (envOfC "is_entry" (defScope s_is_entry) s.heap.objs.size f cdv)).units + 64 < cLine := by have := hr.un; omega
  unfold b_is_entry
  exact ⟨_, (dss_cons (ds_if (dt_w (dw_or (dt_not (dt_val (de_callx (ok_is_listed M) (hr.mono (by decide)) (by rfl) (da_cons (de_var 0 (pv 0)) da_nil) (len_cons len_nil)))) (dw_or (dt_cmp (cmd_nex K hu64) (de_callB (cad_lenx K) (by rfl) M.n_len bt_len (da_cons (de_var 0 (pv 0)) da_nil)) de_int) (dw_or1 (dt_not (dt_val (de_callB (cad_isix K) (by rfl) M.n_isinstance bt_isinstance (da_cons (de_ix (ixdx K) (de_var 0 (pv 0)) de_int (fun _ _ => rfl)) (da_cons (de_ty (by rfl) M.n_str bt_str) da_nil))))))))) (dss_one (ds_ret de_bl)) dss_nil) (dss_cons (ds_if (dt_cmp (cmd_eqx K hu64) (de_ix (ixdx K) (de_var 0 (pv 0)) de_int (fun _ _ => rfl)) de_str) (dss_one (ds_ret (de_and (de_callx (ok_is_listed M) (hr.mono (by decide)) (by rfl) (da_cons (de_ix (ixdx K) (de_var 0 (pv 0)) de_int (fun _ _ => rfl)) da_nil) (len_cons len_nil)) (de_one (de_cmp (cmd_eqx K hu64) (de_callB (cad_lenx K) (by rfl) M.n_len bt_len (da_cons (de_ix (ixdx K) (de_var 0 (pv 0)) de_int (fun _ _ => rfl)) da_nil)) de_int))))) dss_nil) (dss_one (ds_ret (de_and (de_cmp (cmd_inx K) (de_ix (ixdx K) (de_var 0 (pv 0)) de_int (fun _ _ => rfl)) (de_tup (da_cons (de_gstr (by rfl) v_WON) (da_cons (de_gstr (by rfl) v_LOST) da_nil)))) (de_and (de_callx (ok_is_front M) (hr.mono (by decide)) (by rfl) (da_cons (de_ix (ixdx K) (de_var 0 (pv 0)) de_int (fun _ _ => rfl)) (da_cons (de_var 1 (pv 1)) da_nil)) (len_cons (len_cons len_nil))) (de_one (de_cmp cmd_gt (de_callB (cad_lenx K) (by rfl) M.n_len bt_len (da_cons (de_ix (ixdx K) (de_var 0 (pv 0)) de_int (fun _ _ => rfl)) da_nil)) de_int))))))))⟩
theorem ok__law_pen (M : Mo K mg) : FnD P w K mg base "_law_pen" ["script"] F__law_pen 1 := by
  refine M.d__law_pen.fnO (b := b__law_pen) (k := 0) sc__law_pen fun f cdv A outer s H E hr => ?_
  have hu : (A.deeper (envOfC "_law_pen" (defScope s__law_pen) s.heap.objs.size f cdv)).units + 70 < cLine := by have := hr.un; omega
  have hu64 : (A.deeper (envOfC "_law_pen" (defScope s__law_pen) s.heap.objs.size f cdv)).units + 64 < cLine := by have := hr.un; omega
  unfold b__law_pen
  exact ⟨_, (dss_one (ds_ret (de_lstO (da_cons (de_lc (own := [("cell", 1)]) rfl sc__law_pen.nd (di_seqx K (de_sl (sldx K) (de_var 0 (pv 0)) do_none (do_some de_int))) (blkOk_by (by rfl)) (fun _ _ _ _ _ => by exact (dg_name (i := 1) sc__law_pen.nd rfl (by first | exact .inl rfl | exact .inr rfl))) (by decide) (fun _ _ _ _ _ => by exact dts_nil) (fun _ _ _ _ _ => by exact (de_callTy cad_int (by rfl) M.n_int bt_int (da_cons (de_var 1 (pv 1)) da_nil)))) (da_cons de_int (da_cons de_int da_nil))))))⟩
theorem ok__law_draw (M : Mo K mg) : FnD P w K mg base "_law_draw" ["pen", "many"] F__law_draw 1 := by
  refine M.d__law_draw.fn (b := b__law_draw) (k := 0) sc__law_draw fun f cdv A outer s H E hr => ?_
  have hu : (A.deeper (envOfC "_law_draw" (defScope s__law_draw) s.heap.objs.size f cdv)).units + 70 < cLine := by have := hr.un; omega
  have hu64 : (A.deeper (envOfC "_law_draw" (defScope s__law_draw) s.heap.objs.size f cdv)).units + 64 < cLine := by have := hr.un; omega
  unfold b__law_draw
  exact ⟨_, (dss_cons (ds_if (dt_cmp cmd_gt (de_ix (ixdx K) (de_var 0 (pv 0)) de_int (fun _ _ => rfl)) de_int) (dss_cons (ds_set (i := 5) sc__law_draw.nd rfl (by first | exact .inl rfl | exact .inr rfl) (de_callTy cad_int (by rfl) M.n_int bt_int (da_cons (de_ix (ixdx K) (de_var 0 (pv 0)) de_int (fun _ _ => rfl)) da_nil))) (dss_cons (ds_setIx (de_op opd_div (de_var 5 (pv 5)) (de_var 1 (pv 1))) (de_var 0 (pv 0)) de_int) (dss_one (ds_ret (de_op opd_mod (de_callTy cad_int (by rfl) M.n_int bt_int (da_cons (de_var 5 (pv 5)) da_nil)) (de_var 1 (pv 1))))))) dss_nil) (dss_cons (ds_set (i := 2) sc__law_draw.nd rfl (by first | exact .inl rfl | exact .inr rfl) (de_ix (ixdx K) (de_var 0 (pv 0)) de_int (fun _ _ => rfl))) (dss_cons (ds_setIx (de_op (opd_addx K) (de_var 2 (pv 2)) de_int) (de_var 0 (pv 0)) de_int) (dss_cons (ds_set (i := 3) sc__law_draw.nd rfl (by first | exact .inl rfl | exact .inr rfl) (de_op (opd_addx K) (de_op opd_mul de_int (de_var 2 (pv 2))) de_int)) (dss_cons (ds_if (dt_cmp (cmd_nex K hu64) (de_ix (ixdx K) (de_var 0 (pv 0)) de_int (fun _ _ => rfl)) (de_lst da_nil)) (dss_one (ds_set (i := 3) sc__law_draw.nd rfl (by first | exact .inl rfl | exact .inr rfl) (de_ix (ixdx K) (de_ix (ixdx K) (de_var 0 (pv 0)) de_int (fun _ _ => rfl)) (de_op opd_mod (de_callTy cad_int (by rfl) M.n_int bt_int (da_cons (de_var 2 (pv 2)) da_nil)) (de_callB (cad_lenx K) (by rfl) M.n_len bt_len (da_cons (de_ix (ixdx K) (de_var 0 (pv 0)) de_int (fun _ _ => rfl)) da_nil))) (fun _ _ => rfl)))) dss_nil) (dss_cons (ds_if (dt_w (dw_and (dt_cmp cmd_lt (de_var 2 (pv 2)) (de_callB (cad_lenx K) (by rfl) M.n_len bt_len (da_cons (de_ix (ixdx K) (de_var 0 (pv 0)) de_int (fun _ _ => rfl)) da_nil))) (dw_and1 (dt_cmp cmd_ge (de_callB cad_abs (by rfl) M.n_abs bt_abs (da_cons (de_var 3 (pv 3)) da_nil)) (de_op opd_pow de_int de_int))))) (dss_cons (ds_set (i := 5) sc__law_draw.nd rfl (by first | exact .inl rfl | exact .inr rfl) (de_op (opd_addx K) (de_op opd_mul de_int (de_op opd_sub (de_callB cad_abs (by rfl) M.n_abs bt_abs (da_cons (de_var 3 (pv 3)) da_nil)) (de_op opd_pow de_int de_int))) (de_callTy cad_int (by rfl) M.n_int bt_int (da_cons (de_cmp cmd_lt (de_var 3 (pv 3)) de_int) da_nil)))) (dss_cons (ds_setIx (de_op opd_div (de_callTy cad_int (by rfl) M.n_int bt_int (da_cons (de_var 5 (pv 5)) da_nil)) (de_var 1 (pv 1))) (de_var 0 (pv 0)) de_int) (dss_one (ds_ret (de_op opd_mod (de_callTy cad_int (by rfl) M.n_int bt_int (da_cons (de_var 5 (pv 5)) da_nil)) (de_var 1 (pv 1))))))) dss_nil) (dss_cons (ds_set (i := 4) sc__law_draw.nd rfl (by first | exact .inl rfl | exact .inr rfl) (de_op opd_mod (de_callTy cad_int (by rfl) M.n_int bt_int (da_cons (de_op opd_pow (de_op (opd_addx K) (de_op (opd_addx K) (de_op opd_mod (de_callTy cad_int (by rfl) M.n_int bt_int (da_cons (de_var 3 (pv 3)) da_nil)) de_int) (de_op opd_mul de_int (de_var 2 (pv 2)))) de_int) de_int) da_nil)) de_int)) (dss_cons (ds_set (i := 4) sc__law_draw.nd rfl (by first | exact .inl rfl | exact .inr rfl) (de_op opd_mod (de_callTy cad_int (by rfl) M.n_int bt_int (da_cons (de_op opd_pow (de_op (opd_addx K) (de_op (opd_addx K) (de_op opd_mul (de_var 4 (pv 4)) (de_op (opd_addx K) (de_op opd_mul de_int (de_var 2 (pv 2))) de_int)) (de_op opd_mul (de_op opd_mul de_int (de_var 2 (pv 2))) (de_var 2 (pv 2)))) de_int) de_int) da_nil)) de_int)) (dss_one (ds_ret (de_op opd_mod (de_callTy cad_int (by rfl) M.n_int bt_int (da_cons (de_op opd_div (de_var 4 (pv 4)) de_int) da_nil)) (de_var 1 (pv 1)))))))))))))⟩
theorem ok__law_pick (M : Mo K mg) : FnD P w K mg base "_law_pick" ["pen", "some"] F__law_pick 2 := by
  refine M.d__law_pick.fn (b := b__law_pick) (k := 1) sc__law_pick fun f cdv A outer s H E hr => ?_
  have hu : (A.deeper (envOfC "_law_pick" (defScope s__law_pick) s.heap.objs.size f cdv)).units + 70 < cLine := by have := hr.un; omega
  have hu64 : (A.deeper (envOfC "_law_pick" (defScope s__law_pick) s.heap.objs.size f cdv)).units + 64 < cLine := by have := hr.un; omega
  unfold b__law_pick
  exact ⟨_, (dss_one (ds_ret (de_ix (ixdx K) (de_var 1 (pv 1)) (de_callx (ok__law_draw M) (hr.mono (by decide)) (by rfl) (da_cons (de_var 0 (pv 0)) (da_cons (de_callB (cad_lenx K) (by rfl) M.n_len bt_len (da_cons (de_var 1 (pv 1)) da_nil)) da_nil)) (len_cons (len_cons len_nil))) (fun _ _ => rfl))))⟩
theorem ok__law_under (M : Mo K mg) : FnD P w K mg base "_law_under" ["one", "other"] F__law_under 1 := by
  refine M.d__law_under.fn (b := b__law_under) (k := 0) sc__law_under fun f cdv A outer s H E hr => ?_
  have hu : (A.deeper (envOfC "_law_under" (defScope s__law_under) s.heap.objs.size f cdv)).units + 70 < cLine := by have := hr.un; omega
  have hu64 : (A.deeper (envOfC "_law_under" (defScope s__law_under) s.heap.objs.size f cdv)).units + 64 < cLine := by have := hr.un; omega
  unfold b__law_under
  exact ⟨_, (dss_one (ds_ret (de_cmp (cmd_eqx K hu64) (de_lc (own := [("mine", 2), ("its", 3)]) rfl sc__law_under.nd (di_zipx K (by rfl) M.n_zip (de_var 0 (pv 0)) (de_var 1 (pv 1))) (blkOk_by (by rfl)) (fun _ _ _ _ _ => by exact (dg_tupx K rfl (dgs_cons (dg_name (i := 2) sc__law_under.nd rfl (by first | exact .inl rfl | exact .inr rfl)) (dgs_cons (dg_name (i := 3) sc__law_under.nd rfl (by first | exact .inl rfl | exact .inr rfl)) dgs_nil)))) (by decide) (fun _ _ _ _ _ => by exact (dts_one (dt_cmp cmd_gt (de_var 2 (pv 2)) (de_var 3 (pv 3))))) (fun _ _ _ _ _ => by exact de_int)) (de_lst da_nil))))⟩
theorem ok__law_flat (M : Mo K mg) : FnD P w K mg base "_law_flat" ["corner"] F__law_flat 1 := by
  refine M.d__law_flat.fn (b := b__law_flat) (k := 0) sc__law_flat fun f cdv A outer s H E hr => ?_
  have hu : (A.deeper (envOfC "_law_flat" (defScope s__law_flat) s.heap.objs.size f cdv)).units + 70 < cLine := by have := hr.un; omega
  have hu64 : (A.deeper (envOfC "_law_flat" (defScope s__law_flat) s.heap.objs.size f cdv)).units + 64 < cLine := by have := hr.un; omega
  unfold b__law_flat
  exact ⟨_, (dss_one (ds_ret (de_op (opd_addx K) (de_op (opd_addx K) (de_tup (da_cons (de_ix (ixdx K) (de_var 0 (pv 0)) de_int (fun _ _ => rfl)) da_nil)) (de_ix (ixdx K) (de_var 0 (pv 0)) de_int (fun _ _ => rfl))) (de_ix (ixdx K) (de_var 0 (pv 0)) de_int (fun _ _ => rfl)))))⟩
theorem ok__law_cut (M : Mo K mg) : FnD P w K mg base "_law_cut" ["corners"] F__law_cut 2 := by
  refine M.d__law_cut.fn (b := b__law_cut) (k := 1) sc__law_cut fun f cdv A outer s H E hr => ?_
  have hu : (A.deeper (envOfC "_law_cut" (defScope s__law_cut) s.heap.objs.size f cdv)).units + 70 < cLine := by have := hr.un; omega
  have hu64 : (A.deeper (envOfC "_law_cut" (defScope s__law_cut) s.heap.objs.size f cdv)).units + 64 < cLine := by have := hr.un; omega
  unfold b__law_cut
  exact ⟨_, (dss_cons (ds_set (i := 1) sc__law_cut.nd rfl (by first | exact .inl rfl | exact .inr rfl) (de_sortSet rfl hu (by rfl) M.n_sorted (by rfl) M.n_set (de_var 0 (pv 0)))) (dss_one (ds_ret (de_callTy (cad_tupx K) (by rfl) M.n_tuple bt_tuple (da_cons (de_lc (own := [("one", 2)]) rfl sc__law_cut.nd (di_seqx K (de_var 1 (pv 1))) (blkOk_by (by rfl)) (fun _ _ _ _ _ => by exact (dg_name (i := 2) sc__law_cut.nd rfl (by first | exact .inl rfl | exact .inr rfl))) (by decide) (fun _ _ _ _ _ => by exact (dts_one (dt_cmp (cmd_eqx K hu64) (de_lc (own := [("other", 3)]) rfl sc__law_cut.nd (di_seqx K (de_var 1 (pv 1))) (blkOk_by (by rfl)) (fun _ _ _ _ _ => by exact (dg_name (i := 3) sc__law_cut.nd rfl (by first | exact .inl rfl | exact .inr rfl))) (by decide) (fun _ _ _ _ _ => by exact (dts_one (dt_w (dw_and (dt_cmp (cmd_nex K hu64) (de_var 3 (pv 3)) (de_var 2 (pv 2))) (dw_and1 (dt_val (de_callx (ok__law_under M) (hr.mono (by decide)) (by rfl) (da_cons (de_callx (ok__law_flat M) (hr.mono (by decide)) (by rfl) (da_cons (de_var 3 (pv 3)) da_nil) (len_cons len_nil)) (da_cons (de_callx (ok__law_flat M) (hr.mono (by decide)) (by rfl) (da_cons (de_var 2 (pv 2)) da_nil) (len_cons len_nil)) da_nil)) (len_cons (len_cons len_nil))))))))) (fun _ _ _ _ _ => by exact (de_var 3 (pv 3)))) (de_lst da_nil)))) (fun _ _ _ _ _ => by exact (de_var 2 (pv 2)))) da_nil)))))⟩
theorem ok__law_corner (M : Mo K mg) : FnD P w K mg base "_law_corner" ["pen", "many"] F__law_corner 2 := by
  refine M.d__law_corner.fn (b := b__law_corner) (k := 1) sc__law_corner fun f cdv A outer s H E hr => ?_
  have hu : (A.deeper (envOfC "_law_corner" (defScope s__law_corner) s.heap.objs.size f cdv)).units + 70 < cLine := by have := hr.un; omega
  have hu64 : (A.deeper (envOfC "_law_corner" (defScope s__law_corner) s.heap.objs.size f cdv)).units + 64 < cLine := by have := hr.un; omega
  unfold b__law_corner
  exact ⟨_, (dss_cons (ds_set (i := 2) sc__law_corner.nd rfl (by first | exact .inl rfl | exact .inr rfl) (de_callTy (cad_tupx K) (by rfl) M.n_tuple bt_tuple (da_cons (de_lc (own := [("at", 3)]) rfl sc__law_corner.nd (di_range1 (by rfl) M.n_range (de_var 1 (pv 1))) (blkOk_by (by rfl)) (fun _ _ _ _ _ => by exact (dg_name (i := 3) sc__law_corner.nd rfl (by first | exact .inl rfl | exact .inr rfl))) (by decide) (fun _ _ _ _ _ => by exact dts_nil) (fun _ _ _ _ _ => by exact (de_op (opd_addx K) de_int (de_callx (ok__law_draw M) (hr.mono (by decide)) (by rfl) (da_cons (de_var 0 (pv 0)) (da_cons de_int da_nil)) (len_cons (len_cons len_nil)))))) da_nil))) (dss_one (ds_ret (de_tup (da_cons (de_callx (ok__law_draw M) (hr.mono (by decide)) (by rfl) (da_cons (de_var 0 (pv 0)) (da_cons de_int da_nil)) (len_cons (len_cons len_nil))) (da_cons (de_var 2 (pv 2)) (da_cons (de_callTy (cad_tupx K) (by rfl) M.n_tuple bt_tuple (da_cons (de_lc (own := [("limit", 4)]) rfl sc__law_corner.nd (di_seqx K (de_var 2 (pv 2))) (blkOk_by (by rfl)) (fun _ _ _ _ _ => by exact (dg_name (i := 4) sc__law_corner.nd rfl (by first | exact .inl rfl | exact .inr rfl))) (by decide) (fun _ _ _ _ _ => by exact dts_nil) (fun _ _ _ _ _ => by exact (de_callx (ok__law_draw M) (hr.mono (by decide)) (by rfl) (da_cons (de_var 0 (pv 0)) (da_cons (de_op (opd_addx K) (de_var 4 (pv 4)) de_int) da_nil)) (len_cons (len_cons len_nil))))) da_nil)) da_nil)))))))⟩
theorem ok__law_front (M : Mo K mg) : FnD P w K mg base "_law_front" ["pen", "many"] F__law_front 3 := by
  refine M.d__law_front.fn (b := b__law_front) (k := 2) sc__law_front fun f cdv A outer s H E hr => ?_
  have hu : (A.deeper (envOfC "_law_front" (defScope s__law_front) s.heap.objs.size f cdv)).units + 70 < cLine := by have := hr.un; omega
  have hu64 : (A.deeper (envOfC "_law_front" (defScope s__law_front) s.heap.objs.size f cdv)).units + 64 < cLine := by have := hr.un; omega
  unfold b__law_front
  exact ⟨_, (dss_one (ds_ret (de_callx (ok__law_cut M) (hr.mono (by decide)) (by rfl) (da_cons (de_lc (own := [("at", 2)]) rfl sc__law_front.nd (di_range1 (by rfl) M.n_range (de_op (opd_addx K) de_int (de_callx (ok__law_draw M) (hr.mono (by decide)) (by rfl) (da_cons (de_var 0 (pv 0)) (da_cons de_int da_nil)) (len_cons (len_cons len_nil))))) (blkOk_by (by rfl)) (fun _ _ _ _ _ => by exact (dg_name (i := 2) sc__law_front.nd rfl (by first | exact .inl rfl | exact .inr rfl))) (by decide) (fun _ _ _ _ _ => by exact dts_nil) (fun _ _ _ _ _ => by exact (de_callx (ok__law_corner M) (hr.mono (by decide)) (by rfl) (da_cons (de_var 0 (pv 0)) (da_cons (de_var 1 (pv 1)) da_nil)) (len_cons (len_cons len_nil))))) da_nil) (len_cons len_nil))))⟩
theorem ok__law_is_int (M : Mo K mg) : FnD P w K mg base "_law_is_int" ["value", "fewest", "most"] F__law_is_int 1 := by
  refine M.d__law_is_int.fn (b := b__law_is_int) (k := 0) sc__law_is_int fun f cdv A outer s H E hr => ?_
  have hu : (A.deeper (envOfC "_law_is_int" (defScope s__law_is_int) s.heap.objs.size f cdv)).units + 70 < cLine := by have := hr.un; omega
  have hu64 : (A.deeper (envOfC "_law_is_int" (defScope s__law_is_int) s.heap.objs.size f cdv)).units + 64 < cLine := by have := hr.un; omega
  unfold b__law_is_int
  exact ⟨_, (dss_one (ds_ret (de_and (de_callB (cad_isix K) (by rfl) M.n_isinstance bt_isinstance (da_cons (de_var 0 (pv 0)) (da_cons (de_ty (by rfl) M.n_int bt_int) da_nil))) (de_and (de_not (de_callB (cad_isix K) (by rfl) M.n_isinstance bt_isinstance (da_cons (de_var 0 (pv 0)) (da_cons (de_ty (by rfl) M.n_bool bt_bool) da_nil)))) (de_one (de_chain cmd_le cmd_le (de_var 1 (pv 1)) (de_var 0 (pv 0)) (de_var 2 (pv 2))))))))⟩
theorem ok__law_is_listed (M : Mo K mg) : FnD P w K mg base "_law_is_listed" ["value"] F__law_is_listed 1 := by
  refine M.d__law_is_listed.fn (b := b__law_is_listed) (k := 0) sc__law_is_listed fun f cdv A outer s H E hr => ?_
  have hu : (A.deeper (envOfC "_law_is_listed" (defScope s__law_is_listed) s.heap.objs.size f cdv)).units + 70 < cLine := by have := hr.un; omega
  have hu64 : (A.deeper (envOfC "_law_is_listed" (defScope s__law_is_listed) s.heap.objs.size f cdv)).units + 64 < cLine := by have := hr.un; omega
  unfold b__law_is_listed
  exact ⟨_, (dss_one (ds_ret (de_or (de_callB (cad_isix K) (by rfl) M.n_isinstance bt_isinstance (da_cons (de_var 0 (pv 0)) (da_cons (de_ty (by rfl) M.n_list bt_list) da_nil))) (de_one (de_callB (cad_isix K) (by rfl) M.n_isinstance bt_isinstance (da_cons (de_var 0 (pv 0)) (da_cons (de_ty (by rfl) M.n_tuple bt_tuple) da_nil)))))))⟩
theorem ok__law_is_corner (M : Mo K mg) : FnD P w K mg base "_law_is_corner" ["value", "many"] F__law_is_corner 2 := by
  refine M.d__law_is_corner.fn (b := b__law_is_corner) (k := 1) sc__law_is_corner fun f cdv A outer s H E hr => ?_
  have hu : (A.deeper (envOfC "_law_is_corner" (defScope s__law_is_corner) s.heap.objs.size f cdv)).units + 70 < cLine := by have := hr.un; omega
  have hu64 : (A.deeper (envOfC "_law_is_corner" (defScope s__law_is_corner) s.heap.objs.size f cdv)).units + 64 < cLine := by have := hr.un; omega
  unfold b__law_is_corner
  exact ⟨_, (dss_cons (ds_if (dt_w (dw_or (dt_not (dt_val (de_callx (ok__law_is_listed M) (hr.mono (by decide)) (by rfl) (da_cons (de_var 0 (pv 0)) da_nil) (len_cons len_nil)))) (dw_or (dt_cmp (cmd_nex K hu64) (de_callB (cad_lenx K) (by rfl) M.n_len bt_len (da_cons (de_var 0 (pv 0)) da_nil)) de_int) (dw_or1 (dt_not (dt_val (de_callx (ok__law_is_int M) (hr.mono (by decide)) (by rfl) (da_cons (de_ix (ixdx K) (de_var 0 (pv 0)) de_int (fun _ _ => rfl)) (da_cons de_int (da_cons de_int da_nil))) (len_cons (len_cons (len_cons len_nil)))))))))) (dss_one (ds_ret de_bl)) dss_nil) (dss_cons (ds_for rfl PassesOwn.never (di_seqx K (de_tup (da_cons (de_tup (da_cons (de_ix (ixdx K) (de_var 0 (pv 0)) de_int (fun _ _ => rfl)) (da_cons de_int da_nil))) (da_cons (de_tup (da_cons (de_ix (ixdx K) (de_var 0 (pv 0)) de_int (fun _ _ => rfl)) (da_cons de_int da_nil))) da_nil)))) (dg_tupx K rfl (dgs_cons (dg_name (i := 2) sc__law_is_corner.nd rfl (by first | exact .inl rfl | exact .inr rfl)) (dgs_cons (dg_name (i := 3) sc__law_is_corner.nd rfl (by first | exact .inl rfl | exact .inr rfl)) dgs_nil))) (dss_one (ds_if (dt_w (dw_or (dt_not (dt_val (de_callx (ok__law_is_listed M) (hr.mono (by decide)) (by rfl) (da_cons (de_var 2 (pv 2)) da_nil) (len_cons len_nil)))) (dw_or (dt_cmp (cmd_nex K hu64) (de_callB (cad_lenx K) (by rfl) M.n_len bt_len (da_cons (de_var 2 (pv 2)) da_nil)) (de_var 1 (pv 1))) (dw_or1 (dt_cmp (cmd_nex K hu64) (de_lc (own := [("one", 6)]) rfl sc__law_is_corner.nd (di_seqx K (de_var 2 (pv 2))) (blkOk_by (by rfl)) (fun _ _ _ _ _ => by exact (dg_name (i := 6) sc__law_is_corner.nd rfl (by first | exact .inl rfl | exact .inr rfl))) (by decide) (fun _ _ _ _ _ => by exact (dts_one (dt_not (dt_val (de_callx (ok__law_is_int M) (hr.mono (by decide)) (by rfl) (da_cons (de_var 6 (pv 6)) (da_cons (de_var 3 (pv 3)) (da_cons (de_op opd_pow de_int de_int) da_nil))) (len_cons (len_cons (len_cons len_nil)))))))) (fun _ _ _ _ _ => by exact (de_var 6 (pv 6)))) (de_lst da_nil)))))) (dss_one (ds_ret de_bl)) dss_nil))) (dss_one (ds_ret (de_cmp (cmd_eqx K hu64) (de_lc (own := [("limit", 4), ("rest", 5)]) rfl sc__law_is_corner.nd (di_zipx K (by rfl) M.n_zip (de_ix (ixdx K) (de_var 0 (pv 0)) de_int (fun _ _ => rfl)) (de_ix (ixdx K) (de_var 0 (pv 0)) de_int (fun _ _ => rfl))) (blkOk_by (by rfl)) (fun _ _ _ _ _ => by exact (dg_tupx K rfl (dgs_cons (dg_name (i := 4) sc__law_is_corner.nd rfl (by first | exact .inl rfl | exact .inr rfl)) (dgs_cons (dg_name (i := 5) sc__law_is_corner.nd rfl (by first | exact .inl rfl | exact .inr rfl)) dgs_nil)))) (by decide) (fun _ _ _ _ _ => by exact (dts_one (dt_cmp cmd_gt (de_var 5 (pv 5)) (de_var 4 (pv 4))))) (fun _ _ _ _ _ => by exact de_int)) (de_lst da_nil))))))⟩
theorem ok__law_is_front (M : Mo K mg) : FnD P w K mg base "_law_is_front" ["value", "many"] F__law_is_front 3 := by
  refine M.d__law_is_front.fn (b := b__law_is_front) (k := 2) sc__law_is_front fun f cdv A outer s H E hr => ?_
  have hu : (A.deeper (envOfC "_law_is_front" (defScope s__law_is_front) s.heap.objs.size f cdv)).units + 70 < cLine := by have := hr.un; omega
  have hu64 : (A.deeper (envOfC "_law_is_front" (defScope s__law_is_front) s.heap.objs.size f cdv)).units + 64 < cLine := by have := hr.un; omega
  unfold b__law_is_front
  exact ⟨_, (dss_cons (ds_if (dt_w (dw_or (dt_not (dt_val (de_callx (ok__law_is_listed M) (hr.mono (by decide)) (by rfl) (da_cons (de_var 0 (pv 0)) da_nil) (len_cons len_nil)))) (dw_or (dt_cmp cmd_gt (de_callB (cad_lenx K) (by rfl) M.n_len bt_len (da_cons (de_var 0 (pv 0)) da_nil)) de_int) (dw_or1 (dt_cmp (cmd_nex K hu64) (de_lc (own := [("one", 3)]) rfl sc__law_is_front.nd (di_seqx K (de_var 0 (pv 0))) (blkOk_by (by rfl)) (fun _ _ _ _ _ => by exact (dg_name (i := 3) sc__law_is_front.nd rfl (by first | exact .inl rfl | exact .inr rfl))) (by decide) (fun _ _ _ _ _ => by exact (dts_one (dt_not (dt_val (de_callx (ok__law_is_corner M) (hr.mono (by decide)) (by rfl) (da_cons (de_var 3 (pv 3)) (da_cons (de_var 1 (pv 1)) da_nil)) (len_cons (len_cons len_nil))))))) (fun _ _ _ _ _ => by exact (de_var 3 (pv 3)))) (de_lst da_nil)))))) (dss_one (ds_ret de_bl)) dss_nil) (dss_cons (ds_set (i := 2) sc__law_is_front.nd rfl (by first | exact .inl rfl | exact .inr rfl) (de_callTy (cad_tupx K) (by rfl) M.n_tuple bt_tuple (da_cons (de_lc (own := [("one", 3)]) rfl sc__law_is_front.nd (di_seqx K (de_var 0 (pv 0))) (blkOk_by (by rfl)) (fun _ _ _ _ _ => by exact (dg_name (i := 3) sc__law_is_front.nd rfl (by first | exact .inl rfl | exact .inr rfl))) (by decide) (fun _ _ _ _ _ => by exact dts_nil) (fun _ _ _ _ _ => by exact (de_tup (da_cons (de_ix (ixdx K) (de_var 3 (pv 3)) de_int (fun _ _ => rfl)) (da_cons (de_callTy (cad_tupx K) (by rfl) M.n_tuple bt_tuple (da_cons (de_ix (ixdx K) (de_var 3 (pv 3)) de_int (fun _ _ => rfl)) da_nil)) (da_cons (de_callTy (cad_tupx K) (by rfl) M.n_tuple bt_tuple (da_cons (de_ix (ixdx K) (de_var 3 (pv 3)) de_int (fun _ _ => rfl)) da_nil)) da_nil)))))) da_nil))) (dss_one (ds_ret (de_cmp (cmd_eqx K hu64) (de_var 2 (pv 2)) (de_callx (ok__law_cut M) (hr.mono (by decide)) (by rfl) (da_cons (de_callTy (cad_listx K) (by rfl) M.n_list bt_list (da_cons (de_var 2 (pv 2)) da_nil)) da_nil) (len_cons len_nil)))))))⟩
theorem ok__law_near_to (M : Mo K mg) : ∀ n : Nat, FnD P w K mg base "_law_near_to" ["pen", "value"] (F__law_near_to n) (2 + n)
  | 0 => M.d__law_near_to.no.mono (Nat.zero_le _)
  | n + 1 => by
    have FR : FnD P w K mg base "_law_near_to" ["pen", "value"] (F__law_near_to n) (2 + n) := ok__law_near_to M n
    refine FnD.mono (M.d__law_near_to.fn (b := b__law_near_to (F__law_near_to n)) (k := 2 + n) sc__law_near_to fun f cdv A outer s H E hr => ?_) (Nat.le_refl _)
    have hu : (A.deeper (envOfC "_law_near_to" (defScope s__law_near_to) s.heap.objs.size f cdv)).units + 70 < cLine := by have := hr.un; omega
    have hu64 : (A.deeper (envOfC "_law_near_to" (defScope s__law_near_to) s.heap.objs.size f cdv)).units + 64 < cLine := by have := hr.un; omega
    unfold b__law_near_to
    exact ⟨_, (dss_cons (ds_if (dt_w (dw_and (dt_val (de_callx (ok__law_is_listed M) (hr.mono (by omega)) (by rfl) (da_cons (de_var 1 (pv 1)) da_nil) (len_cons len_nil))) (dw_and (dt_cmp cmd_gt (de_callB (cad_lenx K) (by rfl) M.n_len bt_len (da_cons (de_var 1 (pv 1)) da_nil)) de_int) (dw_and1 (dt_cmp cmd_gt (de_callx (ok__law_draw M) (hr.mono (by omega)) (by rfl) (da_cons (de_var 0 (pv 0)) (da_cons de_int da_nil)) (len_cons (len_cons len_nil))) de_int))))) (dss_cons (ds_set (i := 2) sc__law_near_to.nd rfl (by first | exact .inl rfl | exact .inr rfl) (de_callx (ok__law_draw M) (hr.mono (by omega)) (by rfl) (da_cons (de_var 0 (pv 0)) (da_cons (de_callB (cad_lenx K) (by rfl) M.n_len bt_len (da_cons (de_var 1 (pv 1)) da_nil)) da_nil)) (len_cons (len_cons len_nil)))) (dss_one (ds_ret (de_op (opd_addx K) (de_op (opd_addx K) (de_callTy (cad_listx K) (by rfl) M.n_list bt_list (da_cons (de_sl (sldx K) (de_var 1 (pv 1)) do_none (do_some (de_var 2 (pv 2)))) da_nil)) (de_lst (da_cons (de_callx FR (hr.mono (by omega)) (by rfl) (da_cons (de_var 0 (pv 0)) (da_cons (de_ix (ixdx K) (de_var 1 (pv 1)) (de_var 2 (pv 2)) (fun _ _ => rfl)) da_nil)) (len_cons (len_cons len_nil))) da_nil))) (de_callTy (cad_listx K) (by rfl) M.n_list bt_list (da_cons (de_sl (sldx K) (de_var 1 (pv 1)) (do_some (de_op (opd_addx K) (de_var 2 (pv 2)) de_int)) do_none) da_nil)))))) dss_nil) (dss_cons (ds_if (dt_val (de_callx (ok__law_is_listed M) (hr.mono (by omega)) (by rfl) (da_cons (de_var 1 (pv 1)) da_nil) (len_cons len_nil))) (dss_one (ds_ret (de_callx (ok__law_pick M) (hr.mono (by omega)) (by rfl) (da_cons (de_var 0 (pv 0)) (da_cons (de_lst (da_cons (de_op opd_mul (de_callTy (cad_listx K) (by rfl) M.n_list bt_list (da_cons (de_var 1 (pv 1)) da_nil)) de_int) (da_cons (de_sl (sldx K) (de_callTy (cad_listx K) (by rfl) M.n_list bt_list (da_cons (de_var 1 (pv 1)) da_nil)) (do_some de_int) do_none) (da_cons (de_revx K (de_callTy (cad_listx K) (by rfl) M.n_list bt_list (da_cons (de_var 1 (pv 1)) da_nil))) (da_cons de_non (da_cons de_str (da_cons de_dct da_nil))))))) da_nil)) (len_cons (len_cons len_nil))))) dss_nil) (dss_cons (ds_if (dt_val (de_callx (ok__law_is_int M) (hr.mono (by omega)) (by rfl) (da_cons (de_var 1 (pv 1)) (da_cons de_int (da_cons (de_op opd_pow de_int de_int) da_nil))) (len_cons (len_cons (len_cons len_nil))))) (dss_one (ds_ret (de_callx (ok__law_pick M) (hr.mono (by omega)) (by rfl) (da_cons (de_var 0 (pv 0)) (da_cons (de_lst (da_cons (de_op (opd_addx K) (de_var 1 (pv 1)) de_int) (da_cons (de_op opd_sub (de_var 1 (pv 1)) de_int) (da_cons de_int (da_cons de_int (da_cons (de_op opd_pow de_int de_int) (da_cons (de_op (opd_addx K) (de_op opd_pow de_int de_int) de_int) (da_cons de_int (da_cons de_int (da_cons de_bl (da_cons (de_callTy cad_str (by rfl) M.n_str bt_str (da_cons (de_var 1 (pv 1)) da_nil)) (da_cons de_non da_nil)))))))))))) da_nil)) (len_cons (len_cons len_nil))))) dss_nil) (dss_one (ds_ret (de_callx (ok__law_pick M) (hr.mono (by omega)) (by rfl) (da_cons (de_var 0 (pv 0)) (da_cons (de_lst (da_cons de_str (da_cons de_str (da_cons de_str (da_cons de_non (da_cons de_int da_nil)))))) da_nil)) (len_cons (len_cons len_nil))))))))⟩
/-- the law itself, run by the caller -/
theorem run_law (M : Mo K mg) {f : Addr} {fd : FuncData} (F : Fun K "law" "law" s_law f fd) : RunAt P w K mg base callerA 8 f fd ["script"] (spD K 1 F_law) := by
  refine Dn.Fun.runAt (N := N_law) (k := 7) F sc_law (fun vs H Q E h => h.1) fun cdv s H vs Q E hr h => ?_
  have hu : (callerA.deeper (envOfC "law" (defScope s_law) s.heap.objs.size f cdv)).units + 70 < cLine := by have := hr.un; omega
  have hu64 : (callerA.deeper (envOfC "law" (defScope s_law) s.heap.objs.size f cdv)).units + 64 < cLine := by have := hr.un; omega
  have hg : (callerA.deeper (envOfC "law" (defScope s_law) s.heap.objs.size f cdv)).guards = some [] := rfl
  have ds : ∃ t, DSs (cxOf CX0 P w K mg base N_law "law" (defScope s_law) f cdv callerA [] s H E).nox (defBody s_law) t b_law := by
    unfold b_law
    exact ⟨_, (dss_cons (ds_set (i := 1) sc_law.nd rfl (by first | exact .inl rfl | exact .inr rfl) (de_callx (ok__law_pen M) (hr.mono (by decide)) (by rfl) (da_cons (de_var 0 (pv 0)) da_nil) (len_cons len_nil))) (dss_cons (ds_for rfl PassesOwn.never (di_range1 (by rfl) M.n_range de_int) (dg_name (i := 2) sc_law.nd rfl (by first | exact .inl rfl | exact .inr rfl)) (dss_cons (ds_set (i := 4) sc_law.nd rfl (by first | exact .inl rfl | exact .inr rfl) (de_op (opd_addx K) de_int (de_callx (ok__law_draw M) (hr.mono (by decide)) (by rfl) (da_cons (de_var 1 (pv 1)) (da_cons de_int da_nil)) (len_cons (len_cons len_nil))))) (dss_cons (ds_set (i := 5) sc_law.nd rfl (by first | exact .inl rfl | exact .inr rfl) (de_callx (ok__law_front M) (hr.mono (by decide)) (by rfl) (da_cons (de_var 1 (pv 1)) (da_cons (de_var 4 (pv 4)) da_nil)) (len_cons (len_cons len_nil)))) (dss_cons (ds_setLc (i := 6) (own := [("at", 9)]) rfl sc_law.nd rfl rfl (sw_true rfl rfl (by rfl) (by rfl)) (di_range1 (by rfl) M.n_range (de_callx (ok__law_draw M) (hr.mono (by decide)) (by rfl) (da_cons (de_var 1 (pv 1)) (da_cons de_int da_nil)) (len_cons (len_cons len_nil)))) (blkOk_by (by rfl)) (fun _ _ _ _ _ => by exact (dg_name (i := 9) sc_law.nd rfl (by first | exact .inl rfl | exact .inr rfl))) (by decide) (fun _ _ _ _ _ => by exact dts_nil) (fun _ _ _ _ _ => by exact (de_callx (ok__law_corner M) (hr.mono (by decide)) (by rfl) (da_cons (de_var 1 (pv 1)) (da_cons (de_var 4 (pv 4)) da_nil)) (len_cons (len_cons len_nil))))) (dss_one (ds_for rfl PassesOwn.never (di_seqx K (de_op (opd_addx K) (de_lst (da_cons (de_var 5 (pv 5)) (da_cons (de_lc (own := [("one", 15)]) rfl sc_law.nd (di_seqx K (de_var 5 (pv 5))) (blkOk_by (by rfl)) (fun _ _ _ _ _ => by exact (dg_name (i := 15) sc_law.nd rfl (by first | exact .inl rfl | exact .inr rfl))) (by decide) (fun _ _ _ _ _ => by exact dts_nil) (fun _ _ _ _ _ => by exact (de_callTy (cad_listx K) (by rfl) M.n_list bt_list (da_cons (de_var 15 (pv 15)) da_nil)))) (da_cons (de_callTy (cad_tupx K) (by rfl) M.n_tuple bt_tuple (da_cons (de_var 6 (pv 6)) da_nil)) (da_cons (de_revx K (de_var 6 (pv 6))) (da_cons (de_tup da_nil) da_nil)))))) (de_lc (own := [("lap", 14)]) rfl sc_law.nd (di_range1 (by rfl) M.n_range de_int) (blkOk_by (by rfl)) (fun _ _ _ _ _ => by exact (dg_name (i := 14) sc_law.nd rfl (by first | exact .inl rfl | exact .inr rfl))) (by decide) (fun _ _ _ _ _ => by exact dts_nil) (fun _ _ _ _ _ => by exact (de_callx (ok__law_near_to M 5) (hr.mono (by decide)) (by rfl) (da_cons (de_var 1 (pv 1)) (da_cons (de_var 5 (pv 5)) da_nil)) (len_cons (len_cons len_nil))))))) (dg_name (i := 7) sc_law.nd rfl (by first | exact .inl rfl | exact .inr rfl)) (dss_one (ds_for rfl PassesOwn.never (di_seqx K (de_tup (da_cons (de_var 4 (pv 4)) (da_cons (de_op (opd_addx K) de_int (de_callx (ok__law_draw M) (hr.mono (by decide)) (by rfl) (da_cons (de_var 1 (pv 1)) (da_cons de_int da_nil)) (len_cons (len_cons len_nil)))) da_nil)))) (dg_name (i := 8) sc_law.nd rfl (by first | exact .inl rfl | exact .inr rfl)) (dss_cons (ds_set (i := 10) sc_law.nd rfl (by first | exact .inl rfl | exact .inr rfl) (de_callx (ok__law_is_front M) (hr.mono (by decide)) (by rfl) (da_cons (de_var 7 (pv 7)) (da_cons (de_var 8 (pv 8)) da_nil)) (len_cons (len_cons len_nil)))) (dss_cons (ds_if (dt_cmp (cmd_nex K hu64) (de_callB (cad_reprx K hg hu) (by rfl) M.n_repr bt_repr (da_cons (de_lst (da_cons (de_callx (ok_is_front M) (hr.mono (by decide)) (by rfl) (da_cons (de_var 7 (pv 7)) (da_cons (de_var 8 (pv 8)) da_nil)) (len_cons (len_cons len_nil))) (da_cons (de_callK (FnD.kw (ks := ["many", "value"]) (is := [1, 0]) (ok_is_front M) M.d_is_front (fun _ _ _ _ _ _ ws hl => match ws, hl with | [_, _], _ => rfl)) (hr.mono (by decide)) (by rfl) (dk_cons (de_var 8 (pv 8)) (dk_cons (de_var 7 (pv 7)) dk_nil)) (len_cons (len_cons len_nil)) (fun l hl => match l, hl with | [_, _], _ => rfl)) da_nil))) da_nil)) (de_callB (cad_reprx K hg hu) (by rfl) M.n_repr bt_repr (da_cons (de_lst (da_cons (de_var 10 (pv 10)) (da_cons (de_var 10 (pv 10)) da_nil))) da_nil))) (dss_one (ds_ret de_bl)) dss_nil) (dss_cons (ds_set (i := 11) sc_law.nd rfl (by first | exact .inl rfl | exact .inr rfl) (de_callx (ok__law_pick M) (hr.mono (by decide)) (by rfl) (da_cons (de_var 1 (pv 1)) (da_cons (de_lst (da_cons (de_tup (da_cons de_str (da_cons (de_var 7 (pv 7)) da_nil))) (da_cons (de_lst (da_cons de_str (da_cons (de_var 7 (pv 7)) da_nil))) (da_cons (de_tup (da_cons de_str (da_cons (de_var 7 (pv 7)) da_nil))) (da_cons (de_tup (da_cons de_str (da_cons (de_var 7 (pv 7)) (da_cons de_non da_nil)))) (da_cons (de_tup (da_cons de_str (da_cons (de_var 7 (pv 7)) da_nil))) (da_cons (de_tup (da_cons de_non (da_cons (de_var 7 (pv 7)) da_nil))) (da_cons de_str da_nil)))))))) da_nil)) (len_cons (len_cons len_nil)))) (dss_cons (ds_set (i := 12) sc_law.nd rfl (by first | exact .inl rfl | exact .inr rfl) (de_and (de_not (de_callB (cad_isix K) (by rfl) M.n_isinstance bt_isinstance (da_cons (de_var 11 (pv 11)) (da_cons (de_ty (by rfl) M.n_str bt_str) da_nil)))) (de_and (de_cmp (cmd_eqx K hu64) (de_callB (cad_lenx K) (by rfl) M.n_len bt_len (da_cons (de_var 11 (pv 11)) da_nil)) de_int) (de_and (de_cmp (cmd_inx K) (de_ix (ixdx K) (de_var 11 (pv 11)) de_int (fun _ _ => rfl)) (de_tup (da_cons de_str (da_cons de_str da_nil)))) (de_and (de_var 10 (pv 10)) (de_one (de_cmp cmd_gt (de_callB (cad_lenx K) (by rfl) M.n_len bt_len (da_cons (de_var 7 (pv 7)) da_nil)) de_int))))))) (dss_cons (ds_set (i := 13) sc_law.nd rfl (by first | exact .inl rfl | exact .inr rfl) (de_and (de_not (de_callB (cad_isix K) (by rfl) M.n_isinstance bt_isinstance (da_cons (de_var 11 (pv 11)) (da_cons (de_ty (by rfl) M.n_str bt_str) da_nil)))) (de_and (de_cmp (cmd_eqx K hu64) (de_callB (cad_lenx K) (by rfl) M.n_len bt_len (da_cons (de_var 11 (pv 11)) da_nil)) de_int) (de_and (de_cmp (cmd_eqx K hu64) (de_ix (ixdx K) (de_var 11 (pv 11)) de_int (fun _ _ => rfl)) de_str) (de_and (de_callx (ok__law_is_listed M) (hr.mono (by decide)) (by rfl) (da_cons (de_var 7 (pv 7)) da_nil) (len_cons len_nil)) (de_one (de_cmp (cmd_eqx K hu64) (de_callB (cad_lenx K) (by rfl) M.n_len bt_len (da_cons (de_var 7 (pv 7)) da_nil)) de_int))))))) (dss_one (ds_if (dt_cmp (cmd_nex K hu64) (de_callB (cad_reprx K hg hu) (by rfl) M.n_repr bt_repr (da_cons (de_callx (ok_is_entry M) (hr.mono (by decide)) (by rfl) (da_cons (de_var 11 (pv 11)) (da_cons (de_var 8 (pv 8)) da_nil)) (len_cons (len_cons len_nil))) da_nil)) (de_callB (cad_reprx K hg hu) (by rfl) M.n_repr bt_repr (da_cons (de_or (de_var 12 (pv 12)) (de_one (de_var 13 (pv 13)))) da_nil))) (dss_one (ds_ret de_bl)) dss_nil))))))))))))))) (dss_cons (ds_setLc (i := 3) (own := [("at", 9)]) rfl sc_law.nd rfl rfl (sw_true rfl rfl (by rfl) (by rfl)) (di_range1 (by rfl) M.n_range de_int) (blkOk_by (by rfl)) (fun _ _ _ _ _ => by exact (dg_name (i := 9) sc_law.nd rfl (by first | exact .inl rfl | exact .inr rfl))) (by decide) (fun _ _ _ _ _ => by exact dts_nil) (fun _ _ _ _ _ => by exact (de_tup (da_cons (de_var 9 (pv 9)) (da_cons (de_tup (da_cons (de_op opd_sub de_int (de_var 9 (pv 9))) da_nil)) (da_cons (de_tup (da_cons de_int da_nil)) da_nil)))))) (dss_cons (ds_if (dt_cmp (cmd_nex K hu64) (de_lst (da_cons (de_callx (ok_is_front M) (hr.mono (by decide)) (by rfl) (da_cons (de_var 3 (pv 3)) (da_cons de_int da_nil)) (len_cons (len_cons len_nil))) (da_cons (de_callx (ok_is_front M) (hr.mono (by decide)) (by rfl) (da_cons (de_sl (sldx K) (de_var 3 (pv 3)) (do_some de_int) do_none) (da_cons de_int da_nil)) (len_cons (len_cons len_nil))) (da_cons (de_callx (ok_is_entry M) (hr.mono (by decide)) (by rfl) (da_cons (de_tup (da_cons de_str (da_cons (de_var 3 (pv 3)) da_nil))) (da_cons de_int da_nil)) (len_cons (len_cons len_nil))) (da_cons (de_callK (FnD.kw (ks := ["value", "many"]) (is := [0, 1]) (ok_is_entry M) M.d_is_entry (fun _ _ _ _ _ _ ws hl => match ws, hl with | [_, _], _ => rfl)) (hr.mono (by decide)) (by rfl) (dk_cons (de_tup (da_cons de_str (da_cons (de_sl (sldx K) (de_var 3 (pv 3)) do_none (do_some de_int)) da_nil))) (dk_cons de_int dk_nil)) (len_cons (len_cons len_nil)) (fun l hl => match l, hl with | [_, _], _ => rfl)) da_nil))))) (de_lst (da_cons de_bl (da_cons de_bl (da_cons de_bl (da_cons de_bl da_nil)))))) (dss_one (ds_ret de_bl)) dss_nil) (dss_one (ds_ret (de_and (de_cmp cmd_isB (de_callx (ok_is_entry M) (hr.mono (by decide)) (by rfl) (da_cons (de_tup (da_cons de_str (da_cons (de_lst da_nil) da_nil))) (da_cons de_int da_nil)) (len_cons (len_cons len_nil))) de_bl) (de_one (de_cmp (cmd_eqx K hu64) (de_lc (own := [("one", 15)]) rfl sc_law.nd (di_seqx K (de_tup (da_cons de_non (da_cons de_int (da_cons (de_tup da_nil) (da_cons de_str (da_cons de_dct da_nil))))))) (blkOk_by (by rfl)) (fun _ _ _ _ _ => by exact (dg_name (i := 15) sc_law.nd rfl (by first | exact .inl rfl | exact .inr rfl))) (by decide) (fun _ _ _ _ _ => by exact (dts_one (dt_val (de_callx (ok_is_entry M) (hr.mono (by decide)) (by rfl) (da_cons (de_var 15 (pv 15)) (da_cons de_int da_nil)) (len_cons (len_cons len_nil)))))) (fun _ _ _ _ _ => by exact (de_var 15 (pv 15)))) (de_lst da_nil))))))))))⟩
  obtain ⟨t, ht⟩ := ds
  exact ⟨t, ht.ps, body_ok ht.dn h⟩
end
end K28
set_option Elab.async false
set_option linter.all false
set_option maxRecDepth 100000
namespace K28
open PySem PySem.Spec PyProof.Rows L2 Dn
/-! ### data -/
def sq (d : D) : Option (List D) := match d with
  | .lst l => some l
  | .tup l => some l
  | _ => none
mutual
def gd : D → Bool
  | .ty _ => false
  | .frl _ => false
  | .lst l => gdAll l
  | .tup l => gdAll l
  | _ => true
def gdAll : List D → Bool
  | [] => true
  | d :: ds => gd d && gdAll ds
end
theorem gd_tn {d : D} (h : gd d = true) : ∃ t, tn d = some t := by
  cases d <;> first | exact ⟨_, rfl⟩ | exact absurd h (by simp [gd])
def isI (d : D) : Bool := match d with
  | .int _ => true
  | _ => false
def isS (d : D) : Bool := (sq d).isSome
def btw (d : D) (lo hi : Int) : Bool := match d with
  | .int i => decide (lo ≤ i) && decide (i ≤ hi)
  | _ => false
theorem isi_int {d : D} (h : gd d = true) (m : Sto) : isiF [.dat d, .dat (.ty "int")] m = some (.dat (.bl (match d with | .int _ => true | .bl _ => true | _ => false)), m) := by
  cases d with
  | frl l => exact absurd h (by unfold gd; exact Bool.false_ne_true)
  | ty l => exact absurd h (by unfold gd; exact Bool.false_ne_true)
  | _ => exact isi_one rfl (by simp)
theorem isi_bool {d : D} (h : gd d = true) (m : Sto) : isiF [.dat d, .dat (.ty "bool")] m = some (.dat (.bl (match d with | .bl _ => true | _ => false)), m) := by
  cases d with
  | frl l => exact absurd h (by unfold gd; exact Bool.false_ne_true)
  | ty l => exact absurd h (by unfold gd; exact Bool.false_ne_true)
  | _ => exact isi_one rfl (by simp)
theorem isi_str {d : D} (h : gd d = true) (m : Sto) : isiF [.dat d, .dat (.ty "str")] m = some (.dat (.bl (match d with | .str _ => true | _ => false)), m) := by
  cases d with
  | frl l => exact absurd h (by unfold gd; exact Bool.false_ne_true)
  | ty l => exact absurd h (by unfold gd; exact Bool.false_ne_true)
  | _ => exact isi_one rfl (by simp)
theorem isi_list {d : D} (h : gd d = true) (m : Sto) : isiF [.dat d, .dat (.ty "list")] m = some (.dat (.bl (match d with | .lst _ => true | _ => false)), m) := by
  cases d with
  | frl l => exact absurd h (by unfold gd; exact Bool.false_ne_true)
  | ty l => exact absurd h (by unfold gd; exact Bool.false_ne_true)
  | _ => exact isi_one rfl (by simp)
theorem isi_tuple {d : D} (h : gd d = true) (m : Sto) : isiF [.dat d, .dat (.ty "tuple")] m = some (.dat (.bl (match d with | .tup _ => true | _ => false)), m) := by
  cases d with
  | frl l => exact absurd h (by unfold gd; exact Bool.false_ne_true)
  | ty l => exact absurd h (by unfold gd; exact Bool.false_ne_true)
  | _ => exact isi_one rfl (by simp)
theorem isi_dict {d : D} (h : gd d = true) (m : Sto) : isiF [.dat d, .dat (.ty "dict")] m = some (.dat (.bl (match d with | .dct _ _ => true | _ => false)), m) := by
  cases d with
  | frl l => exact absurd h (by unfold gd; exact Bool.false_ne_true)
  | ty l => exact absurd h (by unfold gd; exact Bool.false_ne_true)
  | _ => exact isi_one rfl (by simp)
theorem isi_seq {d : D} (h : gd d = true) (m : Sto) : isiF [.dat d, .dat (.tup [.ty "list", .ty "tuple"])] m = some (.dat (.bl (isS d)), m) := by
  cases d with
  | frl l => exact absurd h (by unfold gd; exact Bool.false_ne_true)
  | ty l => exact absurd h (by unfold gd; exact Bool.false_ne_true)
  | lst l => exact isi_two (b := true) (b' := false) rfl (by simp) (by simp)
  | tup l => exact isi_two (b := false) (b' := true) rfl (by simp) (by simp)
  | _ => exact isi_two (b := false) (b' := false) rfl (by simp) (by simp)
theorem e_integer {d : D} (h : gd d = true) (m : Sto) : F_is_integer [.dat d] m = some (.dat (.bl (isI d)), m) := by
  refine body_rt0 (ρ' := [some (.dat d)]) ?_
  show b_is_integer [some (.dat d)] m = _
  unfold b_is_integer
  simp [isi_int h, isi_bool h]
  cases d <;> rfl
theorem e_between {d : D} (h : gd d = true) (a b : Int) (m : Sto) : F_is_between [.dat d, .dat (.int a), .dat (.int b)] m = some (.dat (.bl (btw d a b)), m) := by
  refine body_rt0 (ρ' := [some (.dat d), some (.dat (.int a)), some (.dat (.int b))]) ?_
  show b_is_between [some (.dat d), some (.dat (.int a)), some (.dat (.int b))] m = _
  unfold b_is_between
  simp [e_integer h]
  cases d with
  | int i => 
    simp [isI, btw, dChain]
    by_cases h : a ≤ i <;> simp [h]
  | _ => rfl
theorem e_lint {d : D} (h : gd d = true) (a b : Int) (m : Sto) : F__law_is_int [.dat d, .dat (.int a), .dat (.int b)] m = some (.dat (.bl (btw d a b)), m) := by
  refine body_rt0 (ρ' := [some (.dat d), some (.dat (.int a)), some (.dat (.int b))]) ?_
  show b__law_is_int [some (.dat d), some (.dat (.int a)), some (.dat (.int b))] m = _
  unfold b__law_is_int
  simp [isi_int h, isi_bool h]
  cases d with
  | int i => 
    simp [btw, dChain]
    by_cases h : a ≤ i <;> simp [h]
  | _ => rfl
theorem e_listed {d : D} (h : gd d = true) (m : Sto) : F_is_listed [.dat d] m = some (.dat (.bl (isS d)), m) := by
  refine body_rt0 (ρ' := [some (.dat d)]) ?_
  show b_is_listed [some (.dat d)] m = _
  unfold b_is_listed
  simp [isi_seq h, dTup, datAll, lim]
theorem e_llisted {d : D} (h : gd d = true) (m : Sto) : F__law_is_listed [.dat d] m = some (.dat (.bl (isS d)), m) := by
  refine body_rt0 (ρ' := [some (.dat d)]) ?_
  show b__law_is_listed [some (.dat d)] m = _
  unfold b__law_is_listed
  simp [isi_list h, isi_tuple h]
  cases d <;> rfl
/-! ### rows, corners -/
def inRow (lo hi : Int) (l : List D) : Bool := l.all fun e => btw e lo hi
def rowOk (d : D) (many lo hi : Int) : Bool := match sq d with
  | some l => decide ((l.length : Int) = many) && inRow lo hi l
  | none => false
theorem gdAll_mem : ∀ {l : List D}, gdAll l = true → ∀ d ∈ l, gd d = true
  | [], _, _, h => by cases h
  | e :: l, h, d, hd => by
    unfold gdAll at h
    rw [Bool.and_eq_true] at h
    rcases List.mem_cons.mp hd with rfl | hd
    · exact h.1
    · exact gdAll_mem h.2 d hd
theorem sq_gd {d : D} {l : List D} (h : gd d = true) (e : sq d = some l) : gdAll l = true := by
  cases d with
  | lst l' => cases e; unfold gd at h; exact h
  | tup l' => cases e; unfold gd at h; exact h
  | _ => cases e
theorem isS_none {d : D} (h : sq d = none) : isS d = false := by unfold isS; rw [h]; rfl
theorem isS_some {d : D} {l : List D} (h : sq d = some l) : isS d = true := by unfold isS; rw [h]; rfl
theorem len_sq {d : D} {l : List D} (h : sq d = some l) (m : Sto) : lenF [.dat d] m = some (.dat (.int l.length), m) := by
  cases d with
  | lst l' => cases h; rfl
  | tup l' => cases h; rfl
  | _ => cases h
theorem iSeq_sq {f : EDen} {ρ : Envr} {m : Sto} {d : D} {l : List D} (h : sq d = some l) (e : f ρ m = some (.dat d, m)) : iSeq f ρ m = some (⟨l, none⟩, m) := by
  unfold iSeq
  rw [e]
  cases d with
  | lst l' => cases h; rfl
  | tup l' => cases h; rfl
  | _ => cases h
theorem ix_sq {d e : D} {l : List D} {n : Nat} (h : sq d = some l) (k : l[n]? = some e) (m : Sto) : ixV (.dat d) (.dat (.int n)) m = some (.dat e, m) := by
  have hn : n < l.length := (List.getElem?_eq_some_iff.mp k).1
  have a : L2.atI l (n : Int) = some e := L2.atI_nat k
  cases d with
  | lst l' => cases h; show (L2.atI l (n : Int)).map _ = _; rw [a]; rfl
  | tup l' => cases h; show (L2.atI l (n : Int)).map _ = _; rw [a]; rfl
  | _ => cases h
theorem e_row {d : D} (h : gd d = true) (many lo hi : Int) (hm : many ≤ 1000000) (m : Sto) : F_is_row [.dat d, .dat (.int many), .dat (.int lo), .dat (.int hi)] m = some (.dat (.bl (rowOk d many lo hi)), m) := by
  refine body_rt0 (ρ' := [some (.dat d), some (.dat (.int many)), some (.dat (.int lo)), some (.dat (.int hi)), none]) ?_
  show b_is_row [some (.dat d), some (.dat (.int many)), some (.dat (.int lo)), some (.dat (.int hi)), none] m = _
  unfold b_is_row
  cases hs : sq d with
  | none => simp [e_listed h, isS_none hs, rowOk, hs]
  | some l =>
    simp [e_listed h, isS_some hs, rowOk, hs, len_sq hs]
    by_cases hl : (l.length : Int) = many
    · rw [if_pos hl, dLc_map (l := l) (fun _ => true) (fun e => .bl (btw e lo hi)) (iSeq_sq hs (by simp)) (by omega) (fun e he => ⟨_, gNm_s, rfl, fun _ => by simp [e_between (gdAll_mem (sq_gd h hs) e he)]⟩), filter_yes]
      simp [hl]; rfl
    · rw [if_neg hl]
      simp [hl]
theorem iZip_sq {fa fb : EDen} {ρ : Envr} {m : Sto} {a b : D} {xs ys : List D} (ha : sq a = some xs) (hb : sq b = some ys) (ea : fa ρ m = some (.dat a, m)) (eb : fb ρ m = some (.dat b, m)) : Dn.iZip fa fb ρ m = some (⟨zipD xs ys, none⟩, m) := by
  have s1 : ∀ {d : D} {l : List D}, sq d = some l → seqV [] (.dat d) = some l := fun {d l} h => by
    cases d with
    | lst l' => cases h; rfl
    | tup l' => cases h; rfl
    | _ => cases h
  unfold Dn.iZip
  rw [ea, Option.bind_some, eb, Option.bind_some]
  show (seqV [] (.dat a)).bind _ = _
  rw [s1 ha, Option.bind_some, s1 hb]; rfl
/-- the second is not above the first -/
def notUp (e : D) : Bool := match e with
  | .tup [.int x, .int y] => decide (y ≤ x)
  | _ => false
def rowInts (d : D) : Prop := ∃ ns : List Int, sq d = some (ns.map .int)
theorem btw_int {d : D} {lo hi : Int} (h : btw d lo hi = true) : ∃ i, d = .int i ∧ lo ≤ i ∧ i ≤ hi := by
  cases d with
  | int i =>
    unfold btw at h
    simp only [Bool.and_eq_true, decide_eq_true_eq] at h
    exact ⟨i, rfl, h⟩
  | _ => cases h
theorem rowOk_sq {d : D} {many lo hi : Int} (h : rowOk d many lo hi = true) : ∃ l, sq d = some l ∧ (l.length : Int) = many ∧ ∀ e ∈ l, ∃ i, e = .int i ∧ lo ≤ i ∧ i ≤ hi := by
  unfold rowOk at h
  cases hs : sq d with
  | none => rw [hs] at h; cases h
  | some l =>
    rw [hs] at h
    simp only [Bool.and_eq_true, decide_eq_true_eq, inRow, List.all_eq_true] at h
    exact ⟨l, rfl, h.1, fun e he => btw_int (h.2 e he)⟩
def cornerOk (d : D) (many : Int) : Bool := match sq d with
  | some [a, l, r] => btw a 0 120 && rowOk l many 1 1000000000 && rowOk r many 0 1000000000 && (match sq l, sq r with
    | some xs, some ys => (zipD xs ys).all notUp
    | _, _ => false)
  | _ => false
theorem sq_not3 {d : D} {l : List D} {many : Int} (h : sq d = some l) (k : l.length ≠ 3) : cornerOk d many = false := by
  unfold cornerOk
  rw [h]
  match l, k with
  | [], _ => rfl
  | [_], _ => rfl
  | [_, _], _ => rfl
  | [_, _, _], k => exact absurd rfl k
  | _ :: _ :: _ :: _ :: _, _ => rfl
theorem len3 {l : List D} (h : l.length = 3) : ∃ a b c, l = [a, b, c] := by
  match l, h with
  | [a, b, c], _ => exact ⟨a, b, c, rfl⟩
theorem e_corner {d : D} (h : gd d = true) (many : Int) (hm : many ≤ 1000000) (m : Sto) : F_is_corner [.dat d, .dat (.int many)] m = some (.dat (.bl (cornerOk d many)), m) := by
  refine body_rt0 (ρ' := [some (.dat d), some (.dat (.int many)), none, none]) ?_
  show b_is_corner [some (.dat d), some (.dat (.int many)), none, none] m = _
  unfold b_is_corner
  cases hs : sq d with
  | none => simp [e_listed h, isS_none hs, cornerOk, hs, dSeq_s]
  | some l =>
    by_cases hl : l.length = 3
    · obtain ⟨a, b, c, rfl⟩ := len3 hl
      have g := sq_gd h hs
      have ga := gdAll_mem g a (by simp)
      have gb := gdAll_mem g b (by simp)
      have gc := gdAll_mem g c (by simp)
      have i0 := ix_sq (n := 0) hs rfl m
      have i1 := ix_sq (n := 1) hs rfl m
      have i2 := ix_sq (n := 2) hs rfl m
      simp only [Int.natCast_zero, Int.natCast_one, show ((2 : Nat) : Int) = 2 from rfl] at i0 i1 i2
      unfold cornerOk
      rw [hs]
      cases h1 : btw a 0 120 with
      | false => simp [dSeq_s, e_listed h, isS_some hs, len_sq hs, i0, e_between ga, h1]
      | true =>
      cases h2 : rowOk b many 1 1000000000 with
      | false => simp [dSeq_s, e_listed h, isS_some hs, len_sq hs, i0, i1, e_between ga, h1, e_row gb _ _ _ hm, h2]
      | true =>
      cases h3 : rowOk c many 0 1000000000 with
      | false => simp [dSeq_s, e_listed h, isS_some hs, len_sq hs, i0, i1, i2, e_between ga, h1, e_row gb _ _ _ hm, h2, e_row gc _ _ _ hm, h3]
      | true =>
      obtain ⟨xs, hx, lx, ix⟩ := rowOk_sq h2
      obtain ⟨ys, hy, ly, iy⟩ := rowOk_sq h3
      simp only [hx, hy]
      have hz := zipD_length xs ys
      have key := dLc_map (fi := Dn.iZip (dOp ixV (dVar 0) (dC (.int 1))) (dOp ixV (dVar 0) (dC (.int 2)))) (g := gTp 2 (gsCons (gNm 2) (gsCons (gNm 3) gsNil))) (t := dYes) (f := dOp qLe (dVar 3) (dVar 2)) (vs := [2, 3]) (ρ := [some (.dat d), some (.dat (.int many)), none, none]) (m := m) (fun _ => true) (fun e => .bl (notUp e)) (iZip_sq hx hy (by simp [i1]) (by simp [i2])) (by omega) (fun e he => by
        obtain ⟨x, y, mx, my, rfl⟩ := zipD_mem he
        obtain ⟨i, rfl, _⟩ := ix x mx
        obtain ⟨j, rfl, _⟩ := iy y my
        exact ⟨_, gTp2, rfl, fun _ => by simp [notUp]⟩)
      simp [dSeq_s, e_listed h, isS_some hs, len_sq hs, i0, i1, i2, e_between ga, h1, e_row gb _ _ _ hm, h2, e_row gc _ _ _ hm, h3, key, filter_yes]
    · rw [sq_not3 hs hl]
      simp [e_listed h, isS_some hs, len_sq hs, dSeq_s]
      have : ¬ ((l.length : Int) = 3) := by omega
      simp [this]
theorem isEmpty_filter {α : Type} {p q : α → Bool} {l : List α} (h : ∀ x ∈ l, p x = !q x) : (l.filter p).isEmpty = l.all q := by
  induction l with
  | nil => rfl
  | cons x l ih =>
    rw [List.all_cons]
    have hx := h x List.mem_cons_self
    have ih' := ih fun y hy => h y (List.mem_cons_of_mem _ hy)
    cases hq : q x with
    | true =>
      rw [List.filter_cons_of_neg (by rw [hx, hq]; exact Bool.false_ne_true), ih']; rfl
    | false =>
      rw [List.filter_cons_of_pos (by rw [hx, hq]; rfl)]; rfl
theorem filter_map_id {p : D → Bool} {l : List D} : ((l.filter p).map fun d => d) = l.filter p := List.map_id' _
noncomputable def rowSt : SDen := (dIfS (dTOr (dTNot (dTst (dCal F__law_is_listed (dCons (dVar 2) dNil)))) (dTOr (dTst (dOp neQ (dCal lenF (dCons (dVar 2) dNil)) (dVar 1))) (dTst (dOp neQ (dLc (iSeq (dVar 2)) (gNm 6) (dTNot (dTst (dCal F__law_is_int (dCons (dVar 6) (dCons (dVar 3) (dCons (dOp qPow (dC (.int 10)) (dC (.int 9))) dNil)))))) (dVar 6) [6]) (dLst dNil))))) (dRet (dC (.bl false))) dNext)
theorem e_rowSt {d r : D} (h : gd r = true) (many lo : Int) (hm : many ≤ 1000000) (m : Sto) : rowSt [some (.dat d), some (.dat (.int many)), some (.dat r), some (.dat (.int lo)), none, none, none] m =
    if rowOk r many lo 1000000000 then some (.nx, [some (.dat d), some (.dat (.int many)), some (.dat r), some (.dat (.int lo)), none, none, none], m) else some (.rt (.dat (.bl false)), [some (.dat d), some (.dat (.int many)), some (.dat r), some (.dat (.int lo)), none, none, none], m) := by
  unfold rowSt
  cases hs : sq r with
  | none => simp [e_llisted h, isS_none hs, rowOk, hs]
  | some l =>
    by_cases hl : (l.length : Int) = many
    · have key := dLc_map (fi := iSeq (dVar 2)) (g := gNm 6) (t := dTNot (dTst (dCal F__law_is_int (dCons (dVar 6) (dCons (dVar 3) (dCons (dOp qPow (dC (.int 10)) (dC (.int 9))) dNil)))))) (f := dVar 6) (vs := [6]) (ρ := [some (.dat d), some (.dat (.int many)), some (.dat r), some (.dat (.int lo)), none, none, none]) (m := m)
        (fun e => !btw e lo 1000000000) (fun e => e) (iSeq_sq hs (by simp)) (by omega) (fun e he => ⟨_, gNm_s, by simp [e_lint (gdAll_mem (sq_gd h hs) e he)], fun _ => by simp⟩)
      have em : ((l.filter fun e => !btw e lo 1000000000).map fun e => e).isEmpty = inRow lo 1000000000 l := by rw [List.map_id']; exact isEmpty_filter fun _ _ => rfl
      generalize hF : ((l.filter fun e => !btw e lo 1000000000).map fun e => e) = F at key em
      simp [e_llisted h, isS_some hs, len_sq hs, key, hl, rowOk, hs, em]
      cases inRow lo 1000000000 l <;> rfl
    · simp [e_llisted h, isS_some hs, len_sq hs, hl, rowOk, hs]
theorem dTup2 {fa fb : EDen} {ρ : Envr} {m : Sto} {a b : D} (ha : fa ρ m = some (.dat a, m)) (hb : fb ρ m = some (.dat b, m)) : dTup (dCons fa (dCons fb dNil)) ρ m = some (.dat (.tup [a, b]), m) := by
  simp [dTup, ha, hb, datAll, lim]
theorem e_lcorner {d : D} (h : gd d = true) (many : Int) (hm : many ≤ 1000000) (m : Sto) : F__law_is_corner [.dat d, .dat (.int many)] m = some (.dat (.bl (cornerOk d many)), m) := by
  cases hs : sq d with
  | none =>
    refine body_rt0 (ρ' := [some (.dat d), some (.dat (.int many)), none, none, none, none, none]) ?_
    show b__law_is_corner [some (.dat d), some (.dat (.int many)), none, none, none, none, none] m = _
    unfold b__law_is_corner
    simp [e_llisted h, isS_none hs, cornerOk, hs, dSeq_s]
  | some l =>
    by_cases hl : l.length = 3
    · obtain ⟨a, b, c, rfl⟩ := len3 hl
      have g := sq_gd h hs
      have ga := gdAll_mem g a (by simp)
      have gb := gdAll_mem g b (by simp)
      have gc := gdAll_mem g c (by simp)
      have i0 := ix_sq (n := 0) hs rfl m
      have i1 := ix_sq (n := 1) hs rfl m
      have i2 := ix_sq (n := 2) hs rfl m
      simp only [Int.natCast_zero, Int.natCast_one, show ((2 : Nat) : Int) = 2 from rfl] at i0 i1 i2
      have it : iSeq (dTup (dCons (dTup (dCons (dOp ixV (dVar 0) (dC (.int 1))) (dCons (dC (.int 1)) dNil))) (dCons (dTup (dCons (dOp ixV (dVar 0) (dC (.int 2))) (dCons (dC (.int 0)) dNil))) dNil))) [some (.dat d), some (.dat (.int many)), none, none, none, none, none] m = some (⟨[.tup [b, .int 1], .tup [c, .int 0]], none⟩, m) :=
        iSeq_sq (d := .tup [.tup [b, .int 1], .tup [c, .int 0]]) rfl (dTup2 (dTup2 (by simp [i1]) (by simp)) (dTup2 (by simp [i2]) (by simp)))
      have e1 : ∀ ρ', b__law_is_corner [some (.dat d), some (.dat (.int many)), none, none, none, none, none] m = some (.rt (.dat (.bl (cornerOk d many))), ρ', m) → F__law_is_corner [.dat d, .dat (.int many)] m = some (.dat (.bl (cornerOk d many)), m) := fun ρ' e => body_rt0 e
      unfold b__law_is_corner at e1
      rw [show (dIfS (dTOr (dTNot (dTst (dCal F__law_is_listed (dCons (dVar 2) dNil)))) (dTOr (dTst (dOp neQ (dCal lenF (dCons (dVar 2) dNil)) (dVar 1))) (dTst (dOp neQ (dLc (iSeq (dVar 2)) (gNm 6) (dTNot (dTst (dCal F__law_is_int (dCons (dVar 6) (dCons (dVar 3) (dCons (dOp qPow (dC (.int 10)) (dC (.int 9))) dNil)))))) (dVar 6) [6]) (dLst dNil))))) (dRet (dC (.bl false))) dNext) = rowSt from rfl] at e1
      unfold cornerOk at e1 ⊢
      rw [hs] at e1 ⊢
      cases h1 : btw a 0 120 with
      | false => 
        refine (e1 [some (.dat d), some (.dat (.int many)), none, none, none, none, none] ?_).trans ?_
        · simp [dSeq_s, e_llisted h, isS_some hs, len_sq hs, i0, e_lint ga, h1]
        · simp [h1]
      | true =>
      cases h2 : rowOk b many 1 1000000000 with
      | false =>
        refine (e1 [some (.dat d), some (.dat (.int many)), some (.dat b), some (.dat (.int 1)), none, none, none] ?_).trans ?_
        · simp [dSeq_s, e_llisted h, isS_some hs, len_sq hs, i0, e_lint ga, h1, dFor, it, dForL, gTp2, e_rowSt gb _ _ hm, h2]
        · simp [h1, h2]
      | true =>
      cases h3 : rowOk c many 0 1000000000 with
      | false =>
        refine (e1 [some (.dat d), some (.dat (.int many)), some (.dat c), some (.dat (.int 0)), none, none, none] ?_).trans ?_
        · simp [dSeq_s, e_llisted h, isS_some hs, len_sq hs, i0, e_lint ga, h1, dFor, it, dForL, gTp2, e_rowSt gb _ _ hm, h2, e_rowSt gc _ _ hm, h3]
        · simp [h1, h2, h3]
      | true =>
      obtain ⟨xs, hx, lx, ix⟩ := rowOk_sq h2
      obtain ⟨ys, hy, ly, iy⟩ := rowOk_sq h3
      have hz := zipD_length xs ys
      have key := dLc_map (fi := Dn.iZip (dOp ixV (dVar 0) (dC (.int 1))) (dOp ixV (dVar 0) (dC (.int 2)))) (g := gTp 2 (gsCons (gNm 4) (gsCons (gNm 5) gsNil))) (t := dTst (dOp qGt (dVar 5) (dVar 4))) (f := dC (.int 1)) (vs := [4, 5]) (ρ := [some (.dat d), some (.dat (.int many)), some (.dat c), some (.dat (.int 0)), none, none, none]) (m := m)
        (fun e => !notUp e) (fun _ => .int 1) (iZip_sq hx hy (by simp [i1]) (by simp [i2])) (by omega) (fun e he => by
          obtain ⟨x, y, mx, my, rfl⟩ := zipD_mem he
          obtain ⟨i, rfl, _⟩ := ix x mx
          obtain ⟨j, rfl, _⟩ := iy y my
          refine ⟨_, gTp2, ?_, fun _ => rfl⟩
          simp [notUp]
          exact dec_lt i j)
      have em : (((zipD xs ys).filter fun e => !notUp e).map fun _ => D.int 1).isEmpty = (zipD xs ys).all notUp := by rw [List.isEmpty_map]; exact isEmpty_filter fun _ _ => rfl
      generalize hF : (((zipD xs ys).filter fun e => !notUp e).map fun _ => D.int 1) = F at key em
      generalize hA : (zipD xs ys).all notUp = A at em
      refine (e1 [some (.dat d), some (.dat (.int many)), some (.dat c), some (.dat (.int 0)), none, none, none] ?_).trans ?_
      · simp [dSeq_s, e_llisted h, isS_some hs, len_sq hs, i0, e_lint ga, h1, dFor, it, dForL, gTp2, e_rowSt gb _ _ hm, h2, e_rowSt gc _ _ hm, h3, key, em, hx, hy, hA]
      · simp [h1, h2, h3, hx, hy, hA]
    · rw [sq_not3 hs hl]
      refine body_rt0 (ρ' := [some (.dat d), some (.dat (.int many)), none, none, none, none, none]) ?_
      show b__law_is_corner [some (.dat d), some (.dat (.int many)), none, none, none, none, none] m = _
      unfold b__law_is_corner
      have : ¬ ((l.length : Int) = 3) := by omega
      simp [e_llisted h, isS_some hs, len_sq hs, dSeq_s, this]
end K28
set_option Elab.async false
set_option linter.all false
set_option maxRecDepth 100000
namespace K28
open PySem PySem.Spec PyProof.Rows L2 Dn
/-! ### corners, their order -/
abbrev Cn := Int × List Int × List Int
def tI (l : List Int) : D := .tup (l.map .int)
def toC (c : Cn) : D := .tup [.int c.1, tI c.2.1, tI c.2.2]
def kI (l : List Int) : NestedKey := .tup (l.map .num)
def kC (c : Cn) : NestedKey := .tup [.num c.1, kI c.2.1, kI c.2.2]
def pyC (c : Cn) : PyData := pyOf (kC c)
theorem kdAll_nums : ∀ l : List Int, kdAll (l.map .num) = l.map .int
  | [] => rfl
  | i :: l => by
    rw [List.map_cons, List.map_cons]
    unfold kdAll
    rw [kdAll_nums l]; rfl
theorem kd_kC (c : Cn) : kd (kC c) = toC c := by
  show D.tup [.int c.1, .tup (kdAll (c.2.1.map .num)), .tup (kdAll (c.2.2.map .num))] = _
  rw [kdAll_nums, kdAll_nums]; rfl
theorem nkAll_ints : ∀ l : List Int, nkAll (l.map .int) = some (l.map .num)
  | [] => rfl
  | i :: l => by
    rw [List.map_cons]
    unfold nkAll
    rw [nkAll_ints l]; rfl
theorem nk_toC (c : Cn) : nk (toC c) = some (kC c) := by
  unfold toC tI
  simp [nk, nkAll, nkAll_ints, kC, kI]
theorem nkAll_toC : ∀ cs : List Cn, nkAll (cs.map toC) = some (cs.map kC)
  | [] => rfl
  | c :: cs => by
    rw [List.map_cons]
    unfold nkAll
    rw [nk_toC, nkAll_toC cs]; rfl
theorem num_inj {l l' : List Int} (h : l.map NestedKey.num = l'.map NestedKey.num) : l = l' := by
  have : ∀ a b : Int, NestedKey.num a = NestedKey.num b → a = b := fun a b e => by injection e
  exact (List.map_inj_right (f := NestedKey.num) this).mp h
theorem kC_inj {c c' : Cn} (h : kC c = kC c') : c = c' := by
  obtain ⟨a, l, r⟩ := c
  obtain ⟨a', l', r'⟩ := c'
  unfold kC kI at h
  simp only [NestedKey.tup.injEq, List.cons.injEq, NestedKey.num.injEq, and_true] at h
  obtain ⟨h1, h2, h3⟩ := h
  rw [h1, num_inj h2, num_inj h3]
theorem toC_inj {c c' : Cn} (h : toC c = toC c') : c = c' := by
  have := nk_toC c
  rw [h, nk_toC c'] at this
  exact (kC_inj (Option.some.inj this)).symm
theorem innAll_nums : ∀ l : List Int, innAll (l.map .num) = true
  | [] => rfl
  | i :: l => by
    rw [List.map_cons]
    unfold innAll
    rw [innAll_nums l]; rfl
theorem inn_kC (c : Cn) : inn (kC c) = true := by
  simp [kC, kI, inn, innAll, innAll_nums]
theorem pyOfAll_nums : ∀ l : List Int, pyOfAll (l.map .num) = l.map .int
  | [] => rfl
  | i :: l => by
    rw [List.map_cons, List.map_cons]
    unfold pyOfAll
    rw [pyOfAll_nums l]; rfl
theorem pyC_eq (c : Cn) : pyC c = .tuple [.int c.1, .tuple (c.2.1.map .int), .tuple (c.2.2.map .int)] := by
  unfold pyC kC kI
  simp [pyOf, pyOfAll, pyOfAll_nums]
theorem alikeAll_ints : ∀ l l' : List Int, PySem.W.alikeAll (l.map .int) (l'.map .int) = true
  | [], _ => by rw [List.map_nil, PySem.W.alikeAll]
  | _ :: _, [] => by rw [List.map_nil, List.map_cons, PySem.W.alikeAll]
  | i :: l, j :: l' => by
    rw [List.map_cons, List.map_cons, PySem.W.alikeAll, alikeAll_ints l l']
    simp [PySem.W.alike]
theorem alike_pyC (c c' : Cn) : PySem.W.alike (pyC c) (pyC c') = true := by
  rw [pyC_eq, pyC_eq]
  simp [PySem.W.alike, PySem.W.alikeAll, alikeAll_ints]
/-- place by place not above -/
def allLe : List Int → List Int → Bool
  | x :: xs, y :: ys => decide (x ≤ y) && allLe xs ys
  | _, _ => true
def cov (c c' : Cn) : Bool := decide (c.1 ≤ c'.1) && allLe c.2.1 c'.2.1 && allLe c.2.2 c'.2.2
abbrev leC (c c' : Cn) : Bool := PySem.W.dataLe false pyC c c'
theorem lex_ints : ∀ l l' : List Int, l.length = l'.length → allLe l l' = true → PyProof.Rows.lexLt itemOrd (PySem.W.keyToksAll (l'.map .int)) (PySem.W.keyToksAll (l.map .int)) = false
  | [], [], _, _ => lex_irrefl _
  | x :: l, y :: l', hl, h => by
    unfold allLe at h
    rw [Bool.and_eq_true, decide_eq_true_eq] at h
    rw [List.map_cons, List.map_cons, PySem.W.dataLt_cons (by simp [PySem.W.alike])]
    split
    · exact lex_ints l l' (by simpa using hl) h.2
    · rw [PySem.W.dataLt_int]
      exact decide_eq_false (by omega)
theorem cov_le {c c' : Cn} (h1 : c.2.1.length = c'.2.1.length) (h2 : c.2.2.length = c'.2.2.length) (h : cov c c' = true) : leC c c' = true := by
  unfold cov at h
  rw [Bool.and_eq_true, Bool.and_eq_true, decide_eq_true_eq] at h
  show (!PySem.W.dataLt (pyC c') (pyC c)) = true
  rw [pyC_eq, pyC_eq, PySem.W.dataLt_tuple, PySem.W.dataLt_cons (by simp [PySem.W.alike])]
  split
  · rw [PySem.W.dataLt_cons (by simp [PySem.W.alike, alikeAll_ints])]
    split
    · rw [PySem.W.dataLt_cons (by simp [PySem.W.alike, alikeAll_ints])]
      split
      · rw [lex_irrefl]; rfl
      · rw [PySem.W.dataLt_tuple, lex_ints _ _ h2 h.2]; rfl
    · rw [PySem.W.dataLt_tuple, lex_ints _ _ h1 h.1.2]; rfl
  · rw [PySem.W.dataLt_int, decide_eq_false (by omega)]; rfl
theorem leC_anti {c c' : Cn} (h1 : leC c c' = true) (h2 : leC c' c = true) : c = c' := kC_inj (dataLe_key (inn_kC c) (inn_kC c') (alike_pyC c c') h1 h2)
theorem allLe_refl : ∀ l : List Int, allLe l l = true
  | [] => rfl
  | x :: l => by unfold allLe; rw [allLe_refl l]; simp
theorem allLe_trans : ∀ a b c : List Int, a.length = b.length → b.length = c.length → allLe a b = true → allLe b c = true → allLe a c = true
  | [], [], [], _, _, _, _ => rfl
  | x :: a, y :: b, z :: c, h1, h2, h3, h4 => by
    unfold allLe at h3 h4 ⊢
    rw [Bool.and_eq_true, decide_eq_true_eq] at h3 h4 ⊢
    exact ⟨by omega, allLe_trans a b c (by simpa using h1) (by simpa using h2) h3.2 h4.2⟩
/-- a list of corners with rows of one length -/
def Even (k : Nat) (cs : List Cn) : Prop := ∀ c ∈ cs, c.2.1.length = k ∧ c.2.2.length = k
theorem cov_trans {k : Nat} {a b c : Cn} (ha : a.2.1.length = k ∧ a.2.2.length = k) (hb : b.2.1.length = k ∧ b.2.2.length = k) (hc : c.2.1.length = k ∧ c.2.2.length = k) (h1 : cov a b = true) (h2 : cov b c = true) : cov a c = true := by
  unfold cov at h1 h2 ⊢
  rw [Bool.and_eq_true, Bool.and_eq_true, decide_eq_true_eq] at h1 h2 ⊢
  exact ⟨⟨by omega, allLe_trans _ _ _ (by omega) (by omega) h1.1.2 h2.1.2⟩, allLe_trans _ _ _ (by omega) (by omega) h1.2 h2.2⟩
/-- the cut, one by one -/
def grd (kept : List Cn) (c : Cn) : List Cn := if kept.any fun o => cov o c then kept else kept ++ [c]
def cutM (S : List Cn) : List Cn := S.foldl grd []
def free (S : List Cn) (c : Cn) : Bool := !S.any fun o => decide (o ≠ c) && cov o c
theorem cut_filter {k : Nat} : ∀ (S P kept : List Cn), Even k (P ++ S) → (P ++ S).Pairwise (fun a b => leC a b = true) → (P ++ S).Nodup → kept = P.filter (free (P ++ S)) → (∀ x ∈ P, ∃ o ∈ kept, cov o x = true) → S.foldl grd kept = (P ++ S).filter (free (P ++ S))
  | [], P, kept, _, _, _, hk, _ => by
    rw [List.foldl_nil, hk, List.append_nil]
  | c :: S, P, kept, he, hp, hn, hk, hc => by
    have e : P ++ c :: S = (P ++ [c]) ++ S := by simp
    have sub : ∀ o ∈ kept, o ∈ P := fun o ho => by rw [hk] at ho; exact (List.mem_filter.mp ho).1
    have hcS : c ∈ P ++ c :: S := by simp
    have lens : ∀ x ∈ P ++ c :: S, x.2.1.length = k ∧ x.2.2.length = k := he
    -- c is free exactly where no kept one covers it
    have key : (kept.any fun o => cov o c) = !free (P ++ c :: S) c := by
      unfold free
      rw [Bool.not_not, Bool.eq_iff_iff, List.any_eq_true, List.any_eq_true]
      constructor
      · rintro ⟨o, ho, hco⟩
        have hoP := sub o ho
        refine ⟨o, by simp [hoP], ?_⟩
        rw [Bool.and_eq_true, decide_eq_true_eq]
        refine ⟨fun eq => ?_, hco⟩
        rw [List.nodup_append] at hn
        exact hn.2.2 o hoP c List.mem_cons_self eq
      · rintro ⟨o, ho, hco⟩
        rw [Bool.and_eq_true, decide_eq_true_eq] at hco
        have oP : o ∈ P := by
          rcases List.mem_append.mp ho with z | z
          · exact z
          · rcases List.mem_cons.mp z with z | z
            · exact absurd z hco.1
            · exfalso
              have l1 : leC o c = true := cov_le (by rw [(lens o ho).1, (lens c hcS).1]) (by rw [(lens o ho).2, (lens c hcS).2]) hco.2
              have l2 : leC c o = true := by
                rw [List.pairwise_append] at hp
                exact (List.pairwise_cons.mp hp.2.1).1 o z
              exact hco.1 (leC_anti l1 l2)
        obtain ⟨q, hq, hqo⟩ := hc o oP
        exact ⟨q, hq, cov_trans (lens q (by simp [sub q hq])) (lens o ho) (lens c hcS) hqo hco.2⟩
    rw [List.foldl_cons, e]
    rw [e] at he hp hn hk key
    refine cut_filter S (P ++ [c]) (grd kept c) he hp hn ?_ fun x hx => ?_
    · rw [List.filter_append, ← hk]
      unfold grd
      rw [key]
      cases hf : free (P ++ [c] ++ S) c with
      | true => rw [Bool.not_true, if_neg Bool.false_ne_true, List.filter_cons_of_pos hf]; rfl
      | false => rw [Bool.not_false, if_pos rfl, List.filter_cons_of_neg (by rw [hf]; exact Bool.false_ne_true), List.filter_nil, List.append_nil]
    · unfold grd
      rcases List.mem_append.mp hx with z | z
      · obtain ⟨o, ho, h⟩ := hc x z
        refine ⟨o, ?_, h⟩
        split
        · exact ho
        · exact List.mem_append_left _ ho
      · have ex : x = c := by simpa using z
        subst ex
        split
        · rename_i h
          obtain ⟨o, ho, h⟩ := List.any_eq_true.mp h
          exact ⟨o, ho, h⟩
        · refine ⟨x, by simp, ?_⟩
          unfold cov
          simp [allLe_refl]
theorem cutM_filter {k : Nat} {S : List Cn} (he : Even k S) (hp : S.Pairwise (fun a b => leC a b = true)) (hn : S.Nodup) : cutM S = S.filter (free S) := cut_filter S [] [] he hp hn rfl fun x h => (by cases h)
end K28
set_option Elab.async false
set_option linter.all false
set_option maxRecDepth 100000
namespace K28
open PySem PySem.Spec PyProof.Rows L2 Dn
/-! ### covers, under -/
theorem zip_all : ∀ l l' : List Int, (zipD (l.map .int) (l'.map .int)).all (fun e => match e with | .tup [.int x, .int y] => decide (x ≤ y) | _ => false) = allLe l l'
  | [], l' => by cases l' <;> rfl
  | x :: l, [] => rfl
  | x :: l, y :: l' => by
    rw [List.map_cons, List.map_cons]
    unfold zipD allLe
    rw [List.all_cons, zip_all l l']
def le2 (e : D) : Bool := match e with
  | .tup [.int x, .int y] => decide (x ≤ y)
  | _ => false
theorem zip_le2 (l l' : List Int) : (zipD (l.map .int) (l'.map .int)).all le2 = allLe l l' := zip_all l l'
theorem zip_ints {l l' : List Int} {e : D} (h : e ∈ zipD (l.map .int) (l'.map .int)) : ∃ i j, e = .tup [.int i, .int j] := by
  obtain ⟨x, y, h1, h2, rfl⟩ := zipD_mem h
  obtain ⟨i, _, rfl⟩ := List.mem_map.mp h1
  obtain ⟨j, _, rfl⟩ := List.mem_map.mp h2
  exact ⟨i, j, rfl⟩
theorem e_at_most (l l' : List Int) (hl : l.length ≤ 1000) (m : Sto) : F_is_at_most [.dat (tI l), .dat (tI l')] m = some (.dat (.bl (allLe l l')), m) := by
  refine body_rt0 (ρ' := [some (.dat (tI l)), some (.dat (tI l')), none, none]) ?_
  show b_is_at_most [some (.dat (tI l)), some (.dat (tI l')), none, none] m = _
  unfold b_is_at_most
  have hz := zipD_length (l.map D.int) (l'.map D.int)
  rw [List.length_map] at hz
  have key := dLc_map (fi := Dn.iZip (dVar 0) (dVar 1)) (g := gTp 2 (gsCons (gNm 2) (gsCons (gNm 3) gsNil))) (t := dYes) (f := dOp qLe (dVar 2) (dVar 3)) (vs := [2, 3]) (ρ := [some (.dat (tI l)), some (.dat (tI l')), none, none]) (m := m) (fun _ => true) (fun e => .bl (le2 e))
    (iZip_sq (a := tI l) (b := tI l') (xs := l.map .int) (ys := l'.map .int) rfl rfl (by simp) (by simp)) (by omega) (fun e he => by
      obtain ⟨i, j, rfl⟩ := zip_ints he
      exact ⟨_, gTp2, rfl, fun _ => by simp [le2]⟩)
  rw [filter_yes] at key
  simp [key, zip_le2]
theorem ix0 (c : Cn) (m : Sto) : ixV (.dat (toC c)) (.dat (.int 0)) m = some (.dat (.int c.1), m) := ix_sq (d := toC c) (n := 0) rfl rfl m
theorem ix1 (c : Cn) (m : Sto) : ixV (.dat (toC c)) (.dat (.int 1)) m = some (.dat (tI c.2.1), m) := ix_sq (d := toC c) (n := 1) rfl rfl m
theorem ix2 (c : Cn) (m : Sto) : ixV (.dat (toC c)) (.dat (.int 2)) m = some (.dat (tI c.2.2), m) := ix_sq (d := toC c) (n := 2) rfl rfl m
theorem e_covers {k : Nat} (hk : k ≤ 1000) {c c' : Cn} (h : c.2.1.length = k ∧ c.2.2.length = k) (m : Sto) : F_covers [.dat (toC c), .dat (toC c')] m = some (.dat (.bl (cov c c')), m) := by
  refine body_rt0 (ρ' := [some (.dat (toC c)), some (.dat (toC c'))]) ?_
  show b_covers [some (.dat (toC c)), some (.dat (toC c'))] m = _
  unfold b_covers
  simp [ix0, ix1, ix2, e_at_most _ _ (show c.2.1.length ≤ 1000 by omega), e_at_most _ _ (show c.2.2.length ≤ 1000 by omega), cov]
  by_cases h1 : c.1 ≤ c'.1
  · simp [h1]
    cases allLe c.2.1 c'.2.1 <;> rfl
  · simp [h1]
/-- a corner as one row -/
def flat (c : Cn) : List Int := c.1 :: (c.2.1 ++ c.2.2)
theorem e_flat {k : Nat} (hk : k ≤ 1000) {c : Cn} (h : c.2.1.length = k ∧ c.2.2.length = k) (m : Sto) : F__law_flat [.dat (toC c)] m = some (.dat (tI (flat c)), m) := by
  refine body_rt0 (ρ' := [some (.dat (toC c))]) ?_
  show b__law_flat [some (.dat (toC c))] m = _
  unfold b__law_flat
  have a1 : addD (.tup [.int c.1]) (tI c.2.1) = some (tI (c.1 :: c.2.1)) := by
    unfold tI addD
    simp [lim]
    omega
  have a2 : addD (tI (c.1 :: c.2.1)) (tI c.2.2) = some (tI (flat c)) := by
    unfold tI addD flat
    simp [lim]
    omega
  simp [ix0, ix1, ix2, dTup, datAll, lim, a1, a2]
theorem e_under (l l' : List Int) (hl : l.length ≤ 10000) (m : Sto) : F__law_under [.dat (tI l), .dat (tI l')] m = some (.dat (.bl (allLe l l')), m) := by
  refine body_rt0 (ρ' := [some (.dat (tI l)), some (.dat (tI l')), none, none]) ?_
  show b__law_under [some (.dat (tI l)), some (.dat (tI l')), none, none] m = _
  unfold b__law_under
  have hz := zipD_length (l.map D.int) (l'.map D.int)
  rw [List.length_map] at hz
  have key := dLc_map (fi := Dn.iZip (dVar 0) (dVar 1)) (g := gTp 2 (gsCons (gNm 2) (gsCons (gNm 3) gsNil))) (t := dTst (dOp qGt (dVar 2) (dVar 3))) (f := dC (.int 1)) (vs := [2, 3]) (ρ := [some (.dat (tI l)), some (.dat (tI l')), none, none]) (m := m) (fun e => !le2 e) (fun _ => .int 1)
    (iZip_sq (a := tI l) (b := tI l') (xs := l.map .int) (ys := l'.map .int) rfl rfl (by simp) (by simp)) (by omega) (fun e he => by
      obtain ⟨i, j, rfl⟩ := zip_ints he
      refine ⟨_, gTp2, ?_, fun _ => rfl⟩
      simp [le2]
      exact dec_lt j i)
  have em : (((zipD (l.map D.int) (l'.map D.int)).filter fun e => !le2 e).map fun _ => D.int 1).isEmpty = allLe l l' := by rw [List.isEmpty_map, ← zip_le2]; exact isEmpty_filter fun _ _ => rfl
  generalize hF : (((zipD (l.map D.int) (l'.map D.int)).filter fun e => !le2 e).map fun _ => D.int 1) = F at key em
  simp [key, em]
theorem allLe_cons (x y : Int) (xs ys : List Int) : allLe (x :: xs) (y :: ys) = (decide (x ≤ y) && allLe xs ys) := rfl
theorem allLe_append : ∀ a a' b b' : List Int, a.length = a'.length → allLe (a ++ b) (a' ++ b') = (allLe a a' && allLe b b')
  | [], [], b, b', _ => by simp [allLe]
  | x :: a, y :: a', b, b', h => by
    rw [List.cons_append, List.cons_append, allLe_cons, allLe_cons, allLe_append a a' b b' (by simpa using h), Bool.and_assoc]
theorem flat_cov {k : Nat} {c c' : Cn} (h : c.2.1.length = k ∧ c.2.2.length = k) (h' : c'.2.1.length = k ∧ c'.2.2.length = k) : allLe (flat c) (flat c') = cov c c' := by
  unfold flat cov
  rw [allLe_cons, allLe_append _ _ _ _ (by omega), Bool.and_assoc]
/-! ### == of corners -/
theorem eqvAll_ints : ∀ l l' : List Int, PyData.eqvAll (l.map .int) (l'.map .int) = decide (l = l')
  | [], [] => rfl
  | [], _ :: _ => rfl
  | _ :: _, [] => rfl
  | x :: l, y :: l' => by
    rw [List.map_cons, List.map_cons, PyData.eqvAll, eqvAll_ints l l']
    rw [Bool.eq_iff_iff]
    simp [PyData.eqv]
theorem eqv_pyC (c c' : Cn) : PyData.eqv (pyC c) (pyC c') = decide (c = c') := by
  rw [pyC_eq, pyC_eq]
  obtain ⟨a, l, r⟩ := c
  obtain ⟨a', l', r'⟩ := c'
  rw [Bool.eq_iff_iff]
  simp [PyData.eqv, PyData.eqvAll, eqvAll_ints]
theorem eqvAll_pyC : ∀ l l' : List Cn, PyData.eqvAll (l.map pyC) (l'.map pyC) = decide (l = l')
  | [], [] => rfl
  | [], _ :: _ => rfl
  | _ :: _, [] => rfl
  | x :: l, y :: l' => by
    rw [List.map_cons, List.map_cons, PyData.eqvAll, eqvAll_pyC l l', eqv_pyC]
    rw [Bool.eq_iff_iff]
    simp
theorem toPy_toC (c : Cn) : toPy (toC c) = some (pyC c) := by rw [← kd_kC]; exact toPy_kd _
theorem toPyAll_toC : ∀ cs : List Cn, toPyAll (cs.map toC) = some (cs.map pyC)
  | [] => rfl
  | c :: cs => by
    rw [List.map_cons]
    unfold toPyAll
    rw [toPy_toC, toPyAll_toC cs]; rfl
theorem canLay_ints : ∀ l : List Int, PyData.canLayAll0 (l.map .int) = true
  | [] => rfl
  | i :: l => by rw [List.map_cons, PyData.canLayAll0, canLay_ints l]; rfl
theorem depth_ints : ∀ l : List Int, PyData.depthAll (l.map .int) ≤ 1
  | [] => by decide
  | i :: l => by
    have := depth_ints l
    rw [List.map_cons, PyData.depthAll]
    simp only [PyData.depth]
    omega
theorem shaped_pyC (c : Cn) : (pyC c).canLay0 = true ∧ (pyC c).depth ≤ 5 := by
  rw [pyC_eq]
  have h1 := depth_ints c.2.1
  have h2 := depth_ints c.2.2
  constructor
  · simp [PyData.canLay0, PyData.canLayAll0, canLay_ints]
  · simp only [PyData.depth, PyData.depthAll]
    omega
theorem shapedAll_pyC : ∀ cs : List Cn, PyData.canLayAll0 (cs.map pyC) = true ∧ PyData.depthAll (cs.map pyC) ≤ 6
  | [] => ⟨rfl, by decide⟩
  | c :: cs => by
    have h := shapedAll_pyC cs
    have h' := shaped_pyC c
    rw [List.map_cons, PyData.canLayAll0, PyData.depthAll, h.1, h'.1]
    refine ⟨rfl, ?_⟩
    have := h.2
    have := h'.2
    omega
theorem eqX_toC (c c' : Cn) : eqX (toC c) (toC c') = some (decide (c = c')) := by
  show eqD (toC c) (toC c') = _
  have s : ∀ c : Cn, shap (toC c) = some (pyC c) := fun c => by
    unfold shap
    rw [toPy_toC, Option.bind_some, if_pos]
    unfold SeqAt.shaped
    have := shaped_pyC c
    rw [this.1, Bool.true_and, decide_eq_true_eq]
    omega
  unfold eqD
  rw [s, s, Option.bind_some, Option.bind_some, eqv_pyC]
theorem eqX_toCs (l l' : List Cn) : eqX (.tup (l.map toC)) (.tup (l'.map toC)) = some (decide (l = l')) := by
  show eqD _ _ = _
  have s : ∀ l : List Cn, shap (.tup (l.map toC)) = some (.tuple (l.map pyC)) := fun l => by
    unfold shap
    rw [show toPy (.tup (l.map toC)) = some (.tuple (l.map pyC)) by
      show (toPyAll (l.map toC)).map PyData.tuple = _
      rw [toPyAll_toC]; rfl, Option.bind_some, if_pos]
    unfold SeqAt.shaped
    have := shapedAll_pyC l
    show (PyData.canLayAll0 (l.map pyC) && decide ((PyData.tuple (l.map pyC)).depth ≤ 64)) = true
    rw [this.1, Bool.true_and, decide_eq_true_eq]
    simp only [PyData.depth]
    omega
  unfold eqD
  rw [s, s, Option.bind_some, Option.bind_some]
  show some (PyData.eqvAll _ _) = _
  rw [eqvAll_pyC]
end K28
set_option Elab.async false
set_option linter.all false
set_option maxRecDepth 100000
namespace K28
open PySem PySem.Spec PyProof.Rows L2 Dn
/-! ### the sorted corners, each once -/
def dd (cs : List Cn) : List Cn := (uq (cs.map fun c => (kC c, c))).map (·.2)
def srt (cs : List Cn) : List Cn := (dd cs).mergeSort leC
theorem uq_pair {cs : List Cn} : ∀ x ∈ uq (cs.map fun c => (kC c, c)), x.1 = kC x.2 ∧ x.2 ∈ cs := fun x hx => by
  rcases uq_mem _ [] x hx with z | z
  · cases z
  · obtain ⟨c, hc, rfl⟩ := List.mem_map.mp z
    exact ⟨rfl, hc⟩
theorem dd_keys (cs : List Cn) : (dd cs).map kC = (uq (cs.map fun c => (kC c, c))).map (·.1) := by
  unfold dd
  rw [List.map_map]
  exact List.map_congr_left fun x hx => (uq_pair x hx).1.symm
theorem dd_nodup (cs : List Cn) : (dd cs).Nodup := L2.nodup_of_map (f := kC) (by rw [dd_keys]; exact uq_nodup _)
theorem dd_mem {cs : List Cn} {c : Cn} : c ∈ dd cs ↔ c ∈ cs := by
  constructor
  · intro h
    obtain ⟨x, hx, rfl⟩ := List.mem_map.mp h
    exact (uq_pair x hx).2
  · intro h
    have : kC c ∈ (dd cs).map kC := by
      rw [dd_keys, uq_keys]
      exact List.mem_map.mpr ⟨(kC c, c), List.mem_map.mpr ⟨c, h, rfl⟩, rfl⟩
    obtain ⟨c', h', e⟩ := List.mem_map.mp this
    rw [← kC_inj e]; exact h'
theorem dd_len (cs : List Cn) : (dd cs).length ≤ cs.length := by
  unfold dd
  rw [List.length_map]
  have := uq_len (cs.map fun c => (kC c, c)) []
  rw [List.length_map] at this
  show (List.foldl uqPut [] _).length ≤ _
  have e : ([] : List (NestedKey × Cn)).length = 0 := rfl
  omega
theorem srt_mem {cs : List Cn} {c : Cn} : c ∈ srt cs ↔ c ∈ cs := by unfold srt; rw [List.mem_mergeSort, dd_mem]
theorem srt_len (cs : List Cn) : (srt cs).length ≤ cs.length := by unfold srt; rw [List.length_mergeSort]; exact dd_len cs
theorem srt_nodup (cs : List Cn) : (srt cs).Nodup := (List.mergeSort_perm _ _).nodup_iff.mpr (dd_nodup cs)
theorem srt_le (cs : List Cn) : (srt cs).Pairwise (fun a b => leC a b = true) := List.pairwise_mergeSort (dataLe_trans _) (dataLe_total _) _
theorem even_srt {k : Nat} {cs : List Cn} (h : Even k cs) : Even k (srt cs) := fun c hc => h c (srt_mem.mp hc)
theorem leD_toC (a b : Cn) : leD (toC a) (toC b) = leC a b := by
  rw [← kd_kC, ← kd_kC, leD_kd]; rfl
theorem sort_toC (U : List Cn) : (U.map toC).mergeSort leD = (U.mergeSort leC).map toC :=
  (List.map_mergeSort (f := toC) fun a _ b _ => (leD_toC a b).symm).symm
theorem depth_nums : ∀ l : List Int, NestedKey.depthAll (l.map .num) = 0
  | [] => rfl
  | i :: l => by
    rw [List.map_cons, NestedKey.depthAll, depth_nums l]; rfl
theorem depth_kC (c : Cn) : (kC c).depth ≤ 8 := by
  unfold kC kI
  simp only [NestedKey.depth, NestedKey.depthAll, depth_nums]
  decide
theorem keyRows_toC {cs : List Cn} (h : cs.length ≤ 1000) : keyRows (cs.map toC) = some (cs.map fun c => (kC c, toC c)) := by
  unfold keyRows
  rw [if_pos, nkAll_toC, Option.bind_some, if_pos]
  · rw [show (cs.map kC).zip (cs.map toC) = cs.map fun c => (kC c, toC c) from by rw [List.zip_map']]
  · rw [List.all_eq_true]
    intro k hk
    obtain ⟨c, _, rfl⟩ := List.mem_map.mp hk
    exact decide_eq_true (depth_kC c)
  · rw [Bool.and_eq_true, List.all_eq_true]
    refine ⟨fun d hd => ?_, ?_⟩
    · obtain ⟨c, _, rfl⟩ := List.mem_map.mp hd
      rfl
    · unfold lim
      rw [List.length_map, decide_eq_true_eq]; omega
theorem uqD_toC (cs : List Cn) : uqD (cs.map fun c => (kC c, toC c)) = (dd cs).map toC := by
  unfold uqD dd
  have e : (cs.map fun c => (kC c, toC c)) = (cs.map fun c => (kC c, c)).map fun x => (x.1, toC x.2) := by rw [List.map_map]; rfl
  rw [e, uq_map, List.map_map, List.map_map]; rfl
theorem okSort_pyC {l : List Cn} (h : l.length ≤ 1000) : okSort (l.map pyC) = true := by
  unfold okSort
  rw [Bool.and_eq_true, Bool.and_eq_true, Bool.and_eq_true, Bool.or_eq_true]
  refine ⟨⟨⟨?_, .inl ?_⟩, ?_⟩, ?_⟩
  · rw [List.all_eq_true]
    intro p hp
    rw [List.all_eq_true]
    intro q hq
    obtain ⟨c, _, rfl⟩ := List.mem_map.mp hp
    obtain ⟨c', _, rfl⟩ := List.mem_map.mp hq
    exact alike_pyC c c'
  · rw [List.all_eq_true]
    intro p hp
    obtain ⟨c, _, rfl⟩ := List.mem_map.mp hp
    rw [pyC_eq]; rfl
  · rw [List.all_eq_true]
    intro p hp
    obtain ⟨c, _, rfl⟩ := List.mem_map.mp hp
    have := (shaped_pyC c).2
    exact decide_eq_true (by omega)
  · unfold lim
    rw [List.length_map, decide_eq_true_eq]; omega
theorem e_ss {cs : List Cn} (h : cs.length < 64) : ssF (cs.map toC) = some ((srt cs).map toC) := by
  unfold ssF
  rw [keyRows_toC (by omega), Option.bind_some, if_pos, uqD_toC, sort_toC]; rfl
  unfold okKeys
  rw [Bool.and_eq_true, decide_eq_true_eq]
  refine ⟨?_, by simpa using h⟩
  rw [List.map_map, List.map_map]
  exact okSort_pyC (by omega)
theorem e_sort {cs : List Cn} (h : cs.length ≤ 1000) (m : Sto) : sortF [.dat (.lst ((dd cs).map toC))] m = some (.dat (.lst ((srt cs).map toC)), m) := by
  unfold sortF lstV
  simp only [Option.bind_some]
  rw [toPyAll_toC, Option.bind_some, if_pos (okSort_pyC (Nat.le_trans (dd_len cs) h)), sort_toC]; rfl
/-! ### reading a corner -/
def intD (e : D) : Option Int := match e with
  | .int i => some i
  | _ => none
def intsOf (d : D) : List Int := match sq d with
  | some l => l.filterMap intD
  | none => []
def csOf (d : D) : Cn := match sq d with
  | some [.int a, l, r] => (a, intsOf l, intsOf r)
  | _ => (0, [], [])
theorem ints_filter : ∀ l : List Int, (l.map D.int).filterMap intD = l
  | [] => rfl
  | i :: l => by
    rw [List.map_cons, List.filterMap_cons_some (f := intD) (a := .int i) (b := i) rfl, ints_filter l]
theorem intsOf_map {d : D} {l : List Int} (h : sq d = some (l.map .int)) : intsOf d = l := by
  unfold intsOf
  rw [h]
  exact ints_filter l
theorem csOf_toC (c : Cn) : csOf (toC c) = c := by
  unfold csOf
  show (c.1, intsOf (tI c.2.1), intsOf (tI c.2.2)) = c
  rw [intsOf_map (l := c.2.1) rfl, intsOf_map (l := c.2.2) rfl]
/-! ### the cut, run -/
theorem body_rtk {n : Nat} {b : SDen} {xs : List Vl} {m m' : Sto} {d : D} {ρ' : Envr} (h : b (xs.map some ++ List.replicate (n - xs.length) none) m = some (.rt (.dat d), ρ', m')) : dBody n b xs m = some (.dat d, m'.take m.length) := by
  unfold dBody
  rw [h]; rfl
noncomputable def cutSt : SDen := (dIfS (dTNot (dTst (dCal anyF (dCons (dLc (iL (dVar 1)) (gNm 3) dYes (dCal F_covers (dCons (dVar 3) (dCons (dVar 2) dNil))) [3]) dNil)))) (dDrop (dAppend (dVar 1) (dVar 2))) dNext)
theorem e_cutSt {k : Nat} (hk : k ≤ 1000) {told : Vl} {c : Cn} {kept : List Cn} (he : Even k kept) (hl : kept.length ≤ 1000) (m : Sto) :
    cutSt [some told, some (.obj m.length), some (.dat (toC c)), none] (m ++ [.lst (kept.map toC)]) = some (.nx, [some told, some (.obj m.length), some (.dat (toC c)), none], m ++ [.lst ((grd kept c).map toC)]) := by
  have at_n : ∀ x : MO, (m ++ [x])[m.length]? = some x := fun x => by simp
  have set_n : ∀ x y : MO, (m ++ [x]).set m.length y = m ++ [y] := fun x y => by simp
  have hi : Dn.iL (dVar 1) [some told, some (.obj m.length), some (.dat (toC c)), none] (m ++ [.lst (kept.map toC)]) = some (⟨kept.map toC, some m.length⟩, m ++ [.lst (kept.map toC)]) := by
    unfold Dn.iL
    simp
  have hsrc : srcB ⟨kept.map toC, some m.length⟩ (m ++ [.lst (kept.map toC)]) = true := by
    unfold srcB
    exact @decide_eq_true _ (Classical.propDecidable _) (at_n _)
  have key := dLc_mapS (g := gNm 3) (t := dYes) (f := dCal F_covers (dCons (dVar 3) (dCons (dVar 2) dNil))) (vs := [3]) (fun _ => true) (fun e => .bl (cov (csOf e) c)) hi hsrc (by show (kept.map toC).length ≤ _; rw [List.length_map]; omega) (fun e he' => by
    obtain ⟨o, ho, rfl⟩ := List.mem_map.mp he'
    exact ⟨_, gNm_s, rfl, fun _ => by simp [e_covers hk (he o ho), csOf_toC]⟩)
  rw [filter_yes] at key
  have ea : (kept.map toC).any (fun e => cov (csOf e) c) = kept.any fun o => cov o c := by
    rw [List.any_map]
    congr 1
    funext o
    show cov (csOf (toC o)) c = _
    rw [csOf_toC]
  unfold cutSt
  simp only [dIfS_s, dTNot_s, dTst_s, dCal_s, dCons_s, dNil_s, key, Option.bind_some, anyF_map, tstO_s, ea]
  unfold grd
  cases kept.any fun o => cov o c with
  | true => simp
  | false =>
    simp [dAppend, isL, at_n, set_n, lim]
    omega
theorem grd_len (kept : List Cn) (c : Cn) : (grd kept c).length ≤ kept.length + 1 := by
  unfold grd
  split
  · omega
  · rw [List.length_append]; exact Nat.le_refl _
theorem grd_mem {kept : List Cn} {c x : Cn} (h : x ∈ grd kept c) : x ∈ kept ∨ x = c := by
  unfold grd at h
  split at h
  · exact .inl h
  · rcases List.mem_append.mp h with z | z
    · exact .inl z
    · exact .inr (by simpa using z)
theorem e_loop {k : Nat} (hk : k ≤ 1000) {told : Vl} {its : Its} (hs : its.src = none) (m : Sto) : ∀ (S kept : List Cn) (x : Option Vl), Even k S → Even k kept → kept.length + S.length ≤ 1000 →
    ∃ x', dForL (gNm 2) cutSt its (S.map toC) [some told, some (.obj m.length), x, none] (m ++ [.lst (kept.map toC)]) = some (.nx, [some told, some (.obj m.length), x', none], m ++ [.lst ((S.foldl grd kept).map toC)])
  | [], kept, x, _, _, _ => ⟨x, rfl⟩
  | c :: S, kept, x, hS, hK, hl => by
    have hb : ∀ m : Sto, srcB its m = true := fun m => by unfold srcB; rw [hs]
    rw [List.length_cons] at hl
    obtain ⟨x', e⟩ := e_loop hk (told := told) hs m S (grd kept c) (some (.dat (toC c))) (fun y hy => hS y (List.mem_cons_of_mem _ hy)) (fun y hy => by
      rcases grd_mem hy with z | z
      · exact hK y z
      · rw [z]; exact hS c List.mem_cons_self) (by have := grd_len kept c; omega)
    refine ⟨x', ?_⟩
    rw [List.map_cons]
    unfold dForL
    rw [gNm_s, Option.bind_some]
    show (cutSt [some told, some (.obj m.length), some (.dat (toC c)), none] _).bind _ = _
    rw [e_cutSt hk hK (by omega), Option.bind_some]
    show (if srcB its _ then _ else _) = _
    rw [hb, if_pos rfl, e]; rfl
theorem e_cut {k : Nat} (hk : k ≤ 1000) {cs : List Cn} (h : Even k cs) (hl : cs.length ≤ 1000) (m : Sto) : F_cut [.dat (.tup (cs.map toC))] m = some (.dat (.tup ((cutM (srt cs)).map toC)), m) := by
  have at_n : ∀ x : MO, (m ++ [x])[m.length]? = some x := fun x => by simp
  have hi : iSeq (dCal sortF (dCons (dUniq (dVar 0)) dNil)) [some (.dat (.tup (cs.map toC))), some (.obj m.length), none, none] (m ++ [.lst ([] : List D)]) = some (⟨(srt cs).map toC, none⟩, m ++ [.lst ([] : List D)]) := by
    refine iSeq_sq (d := .lst ((srt cs).map toC)) rfl ?_
    have e1 : dUniq (dVar 0) [some (.dat (.tup (cs.map toC))), some (.obj m.length), none, none] (m ++ [.lst ([] : List D)]) = some (.dat (.lst ((dd cs).map toC)), m ++ [.lst ([] : List D)]) := by
      unfold dUniq
      rw [dVar_s (x := .dat (.tup (cs.map toC))) rfl, Option.bind_some]
      show (some (cs.map toC)).bind _ = _
      rw [Option.bind_some, keyRows_toC hl, Option.map_some, uqD_toC]
    simp [e1, e_sort hl]
  obtain ⟨x', el⟩ := e_loop hk (told := .dat (.tup (cs.map toC))) (its := ⟨(srt cs).map toC, none⟩) rfl m (srt cs) [] none (even_srt h) (fun c hc => by cases hc) (by have := srt_len cs; show 0 + _ ≤ 1000; omega)
  have hb : b_cut [some (.dat (.tup (cs.map toC))), none, none, none] m = some (.rt (.dat (.tup ((cutM (srt cs)).map toC))), [some (.dat (.tup (cs.map toC))), some (.obj m.length), x', none], m ++ [.lst ((cutM (srt cs)).map toC)]) := by
    unfold b_cut
    rw [dSeq_s]
    have e0 : dSet 1 (dLstO dNil) [some (.dat (.tup (cs.map toC))), none, none, none] m = some (.nx, [some (.dat (.tup (cs.map toC))), some (.obj m.length), none, none], m ++ [.lst []]) := by
      simp [dSet_s, dLstO, datAll, lim]
    rw [e0, seqO_nx, dSeq_s]
    have e1 : dFor (iSeq (dCal sortF (dCons (dUniq (dVar 0)) dNil))) (gNm 2) cutSt [some (.dat (.tup (cs.map toC))), some (.obj m.length), none, none] (m ++ [.lst []]) = some (.nx, [some (.dat (.tup (cs.map toC))), some (.obj m.length), x', none], m ++ [.lst ((cutM (srt cs)).map toC)]) := by
      unfold dFor
      rw [hi]
      exact el
    unfold cutSt at e1
    rw [e1, seqO_nx]
    have e2 : tupF [.obj m.length] (m ++ [.lst ((cutM (srt cs)).map toC)]) = some (.dat (.tup ((cutM (srt cs)).map toC)), m ++ [.lst ((cutM (srt cs)).map toC)]) := by
      unfold tupF seqV lstV
      simp [at_n]
    simp [e2]
  have := body_rtk (n := N_cut.length) (xs := [.dat (.tup (cs.map toC))]) hb
  rw [List.take_left] at this
  exact this
end K28
set_option Elab.async false
set_option linter.all false
set_option maxRecDepth 100000
namespace K28
open PySem PySem.Spec PyProof.Rows L2 Dn
/-! ### the law's cut -/
theorem neQ_toC (a b : Cn) (m : Sto) : neQ (.dat (toC a)) (.dat (toC b)) m = some (.dat (.bl (!decide (a = b))), m) := by
  unfold neQ
  rw [lift2_s, eqX_toC]; rfl
theorem e_lcut {k : Nat} (hk : k ≤ 1000) {cs : List Cn} (h : Even k cs) (hl : cs.length < 64) (m : Sto) : F__law_cut [.dat (.lst (cs.map toC))] m = some (.dat (.tup ((cutM (srt cs)).map toC)), m) := by
  have hS := even_srt h
  rw [cutM_filter hS (srt_le cs) (srt_nodup cs)]
  have e0 : dSS (dVar 0) [some (.dat (.lst (cs.map toC))), none, none, none] m = some (.dat (.lst ((srt cs).map toC)), m) := by
    unfold dSS
    rw [dVar_s (x := .dat (.lst (cs.map toC))) rfl, Option.bind_some]
    show (ssF (cs.map toC)).map _ = _
    rw [e_ss hl]; rfl
  have hlen := srt_len cs
  generalize hSS : srt cs = S at hS e0 hlen ⊢
  -- the inner comprehension
  have inner : ∀ c ∈ S, dLc (iSeq (dVar 1)) (gNm 3) (dTAnd (dTst (dOp neQ (dVar 3) (dVar 2))) (dTst (dCal F__law_under (dCons (dCal F__law_flat (dCons (dVar 3) dNil)) (dCons (dCal F__law_flat (dCons (dVar 2) dNil)) dNil))))) (dVar 3) [3] [some (.dat (.lst (cs.map toC))), some (.dat (.lst (S.map toC))), some (.dat (toC c)), none] m =
      some (.dat (.lst (((S.map toC).filter fun e => decide (csOf e ≠ c) && cov (csOf e) c).map fun e => e)), m) := fun c hc => by
    refine dLc_map (l := S.map toC) _ _ (iSeq_sq (d := .lst (S.map toC)) rfl (by simp)) (by rw [List.length_map]; omega) fun e he => ?_
    obtain ⟨o, ho, rfl⟩ := List.mem_map.mp he
    refine ⟨_, gNm_s, ?_, fun _ => by simp⟩
    have f1 := e_flat hk (hS o ho) m
    have f2 := e_flat hk (hS c hc) m
    have hfl : (flat o).length ≤ 10000 := by
      unfold flat
      have := hS o ho
      rw [List.length_cons, List.length_append]; omega
    simp only [dTAnd_s, dTst_s, dOp_s, dCal_s, dCons_s, dNil_s, dWipe_cons, dWipe_nil]
    rw [csOf_toC]
    by_cases e : o = c
    · simp [neQ_toC, e]
    · simp [neQ_toC, e, f1, f2, e_under _ _ hfl, flat_cov (hS o ho) (hS c hc)]
  have em : ∀ c, (((S.map toC).filter fun e => decide (csOf e ≠ c) && cov (csOf e) c).map fun e => e).isEmpty = free S c := fun c => by
    rw [List.isEmpty_map]
    unfold free
    rw [isEmpty_filter (q := fun e => !(decide (csOf e ≠ c) && cov (csOf e) c)) (fun _ _ => by rw [Bool.not_not]), List.all_map]
    rw [List.all_eq_not_any_not]
    congr 2
    funext o
    show (!!(decide (csOf (toC o) ≠ c) && cov (csOf (toC o)) c)) = _
    rw [csOf_toC, Bool.not_not]
  have outer := dLc_map (fi := iSeq (dVar 1)) (g := gNm 2) (t := dTst (dOp eqQ (dLc (iSeq (dVar 1)) (gNm 3) (dTAnd (dTst (dOp neQ (dVar 3) (dVar 2))) (dTst (dCal F__law_under (dCons (dCal F__law_flat (dCons (dVar 3) dNil)) (dCons (dCal F__law_flat (dCons (dVar 2) dNil)) dNil))))) (dVar 3) [3]) (dLst dNil))) (f := dVar 2) (vs := [2])
    (ρ := [some (.dat (.lst (cs.map toC))), some (.dat (.lst (S.map toC))), none, none]) (m := m) (l := S.map toC) (fun e => free S (csOf e)) (fun e => e) (iSeq_sq (d := .lst (S.map toC)) rfl (by simp)) (by rw [List.length_map]; omega) (fun e he => by
      obtain ⟨c, hc, rfl⟩ := List.mem_map.mp he
      refine ⟨_, gNm_s, ?_, fun _ => by simp⟩
      have := inner c hc
      have e2 := em c
      generalize hF : (((S.map toC).filter fun e => decide (csOf e ≠ c) && cov (csOf e) c).map fun e => e) = F at this e2
      simp [this, e2, csOf_toC])
  have e3 : (((S.map toC).filter fun e => free S (csOf e)).map fun e => e) = (S.filter (free S)).map toC := by
    rw [List.map_id', List.filter_map]
    congr 1
    exact List.filter_congr fun c _ => by show free S (csOf (toC c)) = _; rw [csOf_toC]
  rw [e3] at outer
  refine body_rt0 (ρ' := [some (.dat (.lst (cs.map toC))), some (.dat (.lst (S.map toC))), none, none]) ?_
  show b__law_cut [some (.dat (.lst (cs.map toC))), none, none, none] m = _
  unfold b__law_cut
  simp [dSeq_s, e0, outer, tupF, seqV, lstV]
/-! ### copies -/
theorem e_copied_int (n : Nat) (i : Int) (m : Sto) : F_copied (n + 1) [.dat (.int i)] m = some (.dat (.int i), m) := by
  refine body_rt0 (ρ' := [some (.dat (.int i)), none]) ?_
  show b_copied (F_copied n) [some (.dat (.int i)), none] m = _
  unfold b_copied
  simp [dSeq_s, isi_seq (show gd (.int i) = true from rfl), isi_dict (show gd (.int i) = true from rfl), dTup, datAll, lim, isS, sq]
theorem e_copied_sq (n : Nat) {d : D} {l : List D} (g : gd d = true) (h : sq d = some l) (hl : l.length ≤ 1000) (y : D → D) (hy : ∀ e ∈ l, ∀ m, F_copied n [.dat e] m = some (.dat (y e), m)) (m : Sto) : F_copied (n + 1) [.dat d] m = some (.dat (.tup (l.map y)), m) := by
  refine body_rt0 (ρ' := [some (.dat d), none]) ?_
  show b_copied (F_copied n) [some (.dat d), none] m = _
  unfold b_copied
  have key := dLc_map (fi := iSeq (dVar 0)) (g := gNm 1) (t := dYes) (f := dCal (F_copied n) (dCons (dVar 1) dNil)) (vs := [1]) (ρ := [some (.dat d), none]) (m := m) (fun _ => true) y (iSeq_sq h (by simp)) (by omega) (fun e he => ⟨_, gNm_s, rfl, fun _ => by simp [hy e he]⟩)
  rw [filter_yes] at key
  simp [dSeq_s, isi_seq g, dTup, datAll, lim, isS_some h, key, tupF, seqV, lstV]
theorem cornerOk_cs {d : D} {many : Int} (h : cornerOk d many = true) : ∃ (a : Int) (l r : D) (xs ys : List Int), sq d = some [.int a, l, r] ∧ sq l = some (xs.map .int) ∧ sq r = some (ys.map .int) ∧ (xs.length : Int) = many ∧ (ys.length : Int) = many ∧ csOf d = (a, xs, ys) := by
  unfold cornerOk at h
  split at h
  · rename_i a l r hs
    rw [Bool.and_eq_true, Bool.and_eq_true, Bool.and_eq_true] at h
    obtain ⟨⟨⟨h1, h2⟩, h3⟩, _⟩ := h
    obtain ⟨i, rfl, _⟩ := btw_int h1
    have asInts : ∀ l : List D, (∀ e ∈ l, ∃ i, e = D.int i) → ∃ ns : List Int, l = ns.map D.int := by
      intro l
      induction l with
      | nil => intro _; exact ⟨[], rfl⟩
      | cons e l ih =>
        intro he
        obtain ⟨i, rfl⟩ := he e List.mem_cons_self
        obtain ⟨ns, rfl⟩ := ih fun x hx => he x (List.mem_cons_of_mem _ hx)
        exact ⟨i :: ns, rfl⟩
    obtain ⟨xs, hx, lx, ix⟩ := rowOk_sq h2
    obtain ⟨ys, hy, ly, iy⟩ := rowOk_sq h3
    obtain ⟨xs, rfl⟩ := asInts xs fun e he => let ⟨i, e', _⟩ := ix e he; ⟨i, e'⟩
    obtain ⟨ys, rfl⟩ := asInts ys fun e he => let ⟨i, e', _⟩ := iy e he; ⟨i, e'⟩
    rw [List.length_map] at lx ly
    refine ⟨i, l, r, xs, ys, hs, hx, hy, lx, ly, ?_⟩
    unfold csOf
    rw [hs]
    show (i, intsOf l, intsOf r) = _
    rw [intsOf_map hx, intsOf_map hy]
  · cases h
theorem map_toInt (xs : List Int) (n : Nat) : ∀ e ∈ xs.map D.int, ∀ m, F_copied (n + 1) [.dat e] m = some (.dat e, m) := fun e he m => by
  obtain ⟨i, _, rfl⟩ := List.mem_map.mp he
  exact e_copied_int n i m
theorem e_copied_corner (n : Nat) {d : D} {many : Int} (g : gd d = true) (hm : many ≤ 1000) (h : cornerOk d many = true) (m : Sto) : F_copied (n + 3) [.dat d] m = some (.dat (toC (csOf d)), m) := by
  obtain ⟨a, l, r, xs, ys, hs, hl, hr, lx, ly, ec⟩ := cornerOk_cs h
  have gl := sq_gd g hs
  rw [ec]
  have := e_copied_sq (n + 2) g hs (by simp) (fun e => match sq e with | some l => .tup l | none => e) (fun e he m => by
    rcases List.mem_cons.mp he with rfl | he
    · exact e_copied_int (n + 1) a m
    · rcases List.mem_cons.mp he with rfl | he
      · have := e_copied_sq (n + 1) (gdAll_mem gl _ (by simp)) hl (by rw [List.length_map]; omega) (fun e => e) (map_toInt xs n) m
        rw [this, hl, List.map_id']
      · have e' : e = r := by simpa using he
        subst e'
        have := e_copied_sq (n + 1) (gdAll_mem gl _ (by simp)) hr (by rw [List.length_map]; omega) (fun e => e) (map_toInt ys n) m
        rw [this, hr, List.map_id']) m
  rw [this]
  show some (Vl.dat (.tup [(match sq (.int a) with | some l => .tup l | none => .int a), (match sq l with | some l => .tup l | none => l), (match sq r with | some l => .tup l | none => r)]), m) = _
  rw [hl, hr]; rfl
end K28
set_option Elab.async false
set_option linter.all false
set_option maxRecDepth 100000
namespace K28
open PySem PySem.Spec PyProof.Rows L2 Dn
/-! ### fronts -/
def corn (many : Int) (l : List D) : Bool := l.all fun e => cornerOk e many
def selfCut (cs : List Cn) : Bool := decide (cs = cutM (srt cs))
def frontOk (d : D) (many : Int) : Bool := match sq d with
  | some l => decide (l.length ≤ 12) && corn many l && selfCut (l.map csOf)
  | none => false
theorem corn_mem {many : Int} {l : List D} (h : corn many l = true) : ∀ e ∈ l, cornerOk e many = true := fun e he => List.all_eq_true.mp h e he
theorem corn_even {many : Int} (h0 : 0 ≤ many) {l : List D} (h : corn many l = true) : Even many.toNat (l.map csOf) := fun c hc => by
  obtain ⟨e, he, rfl⟩ := List.mem_map.mp hc
  obtain ⟨a, lr, r, xs, ys, _, _, _, lx, ly, ec⟩ := cornerOk_cs (corn_mem h e he)
  rw [ec]
  show xs.length = _ ∧ ys.length = _
  omega
theorem eqQ_cut (cs cs' : List Cn) (m : Sto) : eqQ (.dat (.tup (cs.map toC))) (.dat (.tup (cs'.map toC))) m = some (.dat (.bl (decide (cs = cs'))), m) := by
  unfold eqQ
  rw [lift2_s, eqX_toCs]; rfl
theorem e_front {d : D} (g : gd d = true) {many : Int} (h0 : 0 ≤ many) (hm : many ≤ 1000) (m : Sto) : F_is_front [.dat d, .dat (.int many)] m = some (.dat (.bl (frontOk d many)), m) := by
  cases hs : sq d with
  | none =>
    refine body_rt0 (ρ' := [some (.dat d), some (.dat (.int many)), none, none]) ?_
    show b_is_front [some (.dat d), some (.dat (.int many)), none, none] m = _
    unfold b_is_front
    simp [e_listed g, isS_none hs, frontOk, hs, dSeq_s]
  | some l =>
    have gl := sq_gd g hs
    by_cases hl : l.length ≤ 12
    · have key := dLc_map (fi := iSeq (dVar 0)) (g := gNm 3) (t := dYes) (f := dCal F_is_corner (dCons (dVar 3) (dCons (dVar 1) dNil))) (vs := [3]) (ρ := [some (.dat d), some (.dat (.int many)), none, none]) (m := m) (fun _ => true) (fun e => .bl (cornerOk e many)) (iSeq_sq hs (by simp)) (by omega) (fun e he => ⟨_, gNm_s, rfl, fun _ => by simp [e_corner (gdAll_mem gl e he) many (by omega)]⟩)
      rw [filter_yes] at key
      have ea : allF [.dat (.lst (l.map fun e => .bl (cornerOk e many)))] m = some (.dat (.bl (corn many l)), m) := allF_map
      have hlt : ¬ (12 : Int) < (l.length : Int) := by omega
      cases hc : corn many l with
      | false =>
        refine body_rt0 (ρ' := [some (.dat d), some (.dat (.int many)), none, none]) ?_
        show b_is_front [some (.dat d), some (.dat (.int many)), none, none] m = _
        unfold b_is_front
        rw [hc] at ea
        simp [e_listed g, isS_some hs, frontOk, hs, dSeq_s, len_sq hs, hlt, key, ea, hc]
      | true =>
        have ec : F_copied 5 [.dat d] m = some (.dat (.tup ((l.map csOf).map toC)), m) := by
          rw [List.map_map]
          exact e_copied_sq 4 g hs (by omega) (fun e => toC (csOf e)) (fun e he m => e_copied_corner 1 (gdAll_mem gl e he) hm (corn_mem hc e he) m) m
        have ek := e_cut (k := many.toNat) (by omega) (corn_even h0 hc) (by rw [List.length_map]; omega) m
        refine body_rt0 (ρ' := [some (.dat d), some (.dat (.int many)), some (.dat (.tup ((l.map csOf).map toC))), none]) ?_
        show b_is_front [some (.dat d), some (.dat (.int many)), none, none] m = _
        unfold b_is_front
        rw [hc] at ea
        generalize hT : (l.map csOf) = cs at ec ek ⊢
        have e1 := eqQ_cut cs (cutM (srt cs)) m
        have fo : frontOk d many = decide (cs = cutM (srt cs)) := by
          unfold frontOk
          rw [hs]
          show (decide (l.length ≤ 12) && corn many l && selfCut (l.map csOf)) = _
          rw [hc, hT, decide_eq_true hl]; rfl
        rw [fo]
        generalize D.tup (List.map toC cs) = T at ec ek e1 ⊢
        simp [dSeq_s, e_listed g, isS_some hs, len_sq hs, hlt, key, ea, ec, ek, e1]
    · refine body_rt0 (ρ' := [some (.dat d), some (.dat (.int many)), none, none]) ?_
      show b_is_front [some (.dat d), some (.dat (.int many)), none, none] m = _
      unfold b_is_front
      have hlt : (12 : Int) < (l.length : Int) := by omega
      simp [e_listed g, isS_some hs, frontOk, hs, dSeq_s, len_sq hs, hlt, hl]
theorem e_lfront {d : D} (g : gd d = true) {many : Int} (h0 : 0 ≤ many) (hm : many ≤ 1000) (m : Sto) : F__law_is_front [.dat d, .dat (.int many)] m = some (.dat (.bl (frontOk d many)), m) := by
  cases hs : sq d with
  | none =>
    refine body_rt0 (ρ' := [some (.dat d), some (.dat (.int many)), none, none]) ?_
    show b__law_is_front [some (.dat d), some (.dat (.int many)), none, none] m = _
    unfold b__law_is_front
    simp [e_llisted g, isS_none hs, frontOk, hs, dSeq_s]
  | some l =>
    have gl := sq_gd g hs
    by_cases hl : l.length ≤ 12
    · have key := dLc_map (fi := iSeq (dVar 0)) (g := gNm 3) (t := dTNot (dTst (dCal F__law_is_corner (dCons (dVar 3) (dCons (dVar 1) dNil))))) (f := dVar 3) (vs := [3]) (ρ := [some (.dat d), some (.dat (.int many)), none, none]) (m := m) (fun e => !cornerOk e many) (fun e => e) (iSeq_sq hs (by simp)) (by omega) (fun e he => ⟨_, gNm_s, by simp [e_lcorner (gdAll_mem gl e he) many (by omega)], fun _ => by simp⟩)
      have em : ((l.filter fun e => !cornerOk e many).map fun e => e).isEmpty = corn many l := by rw [List.map_id']; exact isEmpty_filter fun _ _ => rfl
      generalize hF : ((l.filter fun e => !cornerOk e many).map fun e => e) = F at key em
      have hlt : ¬ (12 : Int) < (l.length : Int) := by omega
      cases hc : corn many l with
      | false =>
        refine body_rt0 (ρ' := [some (.dat d), some (.dat (.int many)), none, none]) ?_
        show b__law_is_front [some (.dat d), some (.dat (.int many)), none, none] m = _
        unfold b__law_is_front
        rw [hc] at em
        simp [e_llisted g, isS_some hs, frontOk, hs, dSeq_s, len_sq hs, hlt, key, em, hc]
      | true =>
        have kt := dLc_map (fi := iSeq (dVar 0)) (g := gNm 3) (t := dYes) (f := dTup (dCons (dOp ixV (dVar 3) (dC (.int 0))) (dCons (dCal tupF (dCons (dOp ixV (dVar 3) (dC (.int 1))) dNil)) (dCons (dCal tupF (dCons (dOp ixV (dVar 3) (dC (.int 2))) dNil)) dNil)))) (vs := [3]) (ρ := [some (.dat d), some (.dat (.int many)), none, none]) (m := m) (fun _ => true) (fun e => toC (csOf e)) (iSeq_sq hs (by simp)) (by omega) (fun e he => by
          obtain ⟨a, lr, r, xs, ys, h1, h2, h3, lx, ly, ec⟩ := cornerOk_cs (corn_mem hc e he)
          have i0 := ix_sq (n := 0) h1 rfl m
          have i1 := ix_sq (n := 1) h1 rfl m
          have i2 := ix_sq (n := 2) h1 rfl m
          simp only [Int.natCast_zero, Int.natCast_one, show ((2 : Nat) : Int) = 2 from rfl] at i0 i1 i2
          have tt : ∀ {x : D} {zs : List D}, sq x = some zs → tupF [.dat x] m = some (.dat (.tup zs), m) := fun {x zs} hx => by
            cases x with
            | lst _ => cases hx; rfl
            | tup _ => cases hx; rfl
            | _ => cases hx
          exact ⟨_, gNm_s, rfl, fun _ => by simp [dTup, datAll, lim, i0, i1, i2, tt h2, tt h3, ec, toC, tI]⟩)
        rw [filter_yes] at kt
        have kt' : (l.map fun e => toC (csOf e)) = (l.map csOf).map toC := by rw [List.map_map]; rfl
        rw [kt'] at kt
        have ek := e_lcut (k := many.toNat) (by omega) (corn_even h0 hc) (by rw [List.length_map]; omega) m
        refine body_rt0 (ρ' := [some (.dat d), some (.dat (.int many)), some (.dat (.tup ((l.map csOf).map toC))), none]) ?_
        show b__law_is_front [some (.dat d), some (.dat (.int many)), none, none] m = _
        unfold b__law_is_front
        rw [hc] at em
        generalize hT : (l.map csOf) = cs at kt ek ⊢
        have e1 := eqQ_cut cs (cutM (srt cs)) m
        have fo : frontOk d many = decide (cs = cutM (srt cs)) := by
          unfold frontOk
          rw [hs]
          show (decide (l.length ≤ 12) && corn many l && selfCut (l.map csOf)) = _
          rw [hc, hT, decide_eq_true hl]; rfl
        rw [fo]
        have e2 : tupF [.dat (.lst (cs.map toC))] m = some (.dat (.tup (cs.map toC)), m) := rfl
        have e3 : listF [.dat (.tup (cs.map toC))] m = some (.dat (.lst (cs.map toC)), m) := rfl
        generalize cs.map toC = T at kt ek e1 e2 e3 ⊢
        simp [dSeq_s, e_llisted g, isS_some hs, len_sq hs, hlt, key, em, kt, ek, e1, e2, e3]
    · refine body_rt0 (ρ' := [some (.dat d), some (.dat (.int many)), none, none]) ?_
      show b__law_is_front [some (.dat d), some (.dat (.int many)), none, none] m = _
      unfold b__law_is_front
      have hlt : (12 : Int) < (l.length : Int) := by omega
      simp [e_llisted g, isS_some hs, frontOk, hs, dSeq_s, len_sq hs, hlt, hl]
end K28
set_option Elab.async false
set_option linter.all false
set_option maxRecDepth 100000
namespace K28
open PySem PySem.Spec PyProof.Rows L2 Dn
/-! ### repr of truth values -/
theorem shap_str {s : Str} (h : PyData.strOk s = true) : shap (.str s) = some (.str s) := by
  unfold shap
  show (some (PyData.str s)).bind _ = _
  rw [Option.bind_some, if_pos]
  unfold SeqAt.shaped
  simp [PyData.canLay0, PyData.depth, h]
theorem eqX_str {s t : Str} (h : PyData.strOk s = true) (k : PyData.strOk t = true) : eqX (.str s) (.str t) = some (decide (s = t)) := by
  show eqD _ _ = _
  unfold eqD
  rw [shap_str h, shap_str k]
  simp [PyData.eqv]
  rw [Bool.eq_iff_iff, beq_iff_eq, decide_eq_true_eq]
theorem rep1 (a : Bool) (m : Sto) : ∃ s, reprG [.dat (.bl a)] m = some (.dat (.str s), m) ∧ neQ (.dat (.str s)) (.dat (.str s)) m = some (.dat (.bl false), m) := by
  have key : ∀ a : Bool, ∃ s, shownD (.bl a) = some s ∧ PyData.strOk s = true := by
    intro a
    cases a
    · exact ⟨"False", by decide +kernel, by decide +kernel⟩
    · exact ⟨"True", by decide +kernel, by decide +kernel⟩
  obtain ⟨s, h1, h2⟩ := key a
  refine ⟨s, ?_, ?_⟩
  · show ((shownD _).map D.str).map _ = _
    rw [h1]; rfl
  · unfold neQ
    rw [lift2_s, eqX_str h2 h2]
    simp
theorem rep2 (a : Bool) (m : Sto) : ∃ s, reprG [.dat (.lst [.bl a, .bl a])] m = some (.dat (.str s), m) ∧ neQ (.dat (.str s)) (.dat (.str s)) m = some (.dat (.bl false), m) := by
  have key : ∀ a : Bool, ∃ s, shownD (.lst [.bl a, .bl a]) = some s ∧ PyData.strOk s = true := by
    intro a
    cases a
    · exact ⟨"[False, False]", by decide +kernel, by decide +kernel⟩
    · exact ⟨"[True, True]", by decide +kernel, by decide +kernel⟩
  obtain ⟨s, h1, h2⟩ := key a
  refine ⟨s, ?_, ?_⟩
  · show ((shownD _).map D.str).map _ = _
    rw [h1]; rfl
  · unfold neQ
    rw [lift2_s, eqX_str h2 h2]
    simp
/-! ### entries -/
def lz (v : D) : Bool := match sq v with
  | some l => l.isEmpty
  | none => false
def lp (v : D) : Bool := match sq v with
  | some l => !l.isEmpty
  | none => false
def entOk (s : Str) (v : D) (many : Int) : Bool := if s = "drawn" then lz v else (decide (s = "won") || decide (s = "lost")) && frontOk v many && lp v
theorem front_sq {v : D} {many : Int} (h : frontOk v many = true) : ∃ l, sq v = some l := by
  unfold frontOk at h
  cases hs : sq v with
  | none => rw [hs] at h; cases h
  | some l => exact ⟨l, rfl⟩
theorem eqQ_str {s t : Str} (h : PyData.strOk s = true) (k : PyData.strOk t = true) (m : Sto) : eqQ (.dat (.str s)) (.dat (.str t)) m = some (.dat (.bl (decide (s = t))), m) := by
  unfold eqQ
  rw [lift2_s, eqX_str h k]; rfl
theorem ok_won : PyData.strOk "won" = true := by decide +kernel
theorem ok_lost : PyData.strOk "lost" = true := by decide +kernel
theorem ok_drawn : PyData.strOk "drawn" = true := by decide +kernel
theorem ok_gone : PyData.strOk "gone" = true := by decide +kernel
theorem in_wl (s : Str) : inD false (.str s) (.tup [.str "won", .str "lost"]) = some (.bl (decide (s = "won") || decide (s = "lost"))) := by
  have e : inD false (.str s) (.tup [.str "won", .str "lost"]) = some (.bl ([D.str "won", D.str "lost"].any fun e => eqF e (.str s))) := by
    show (if (flD (.str s) && [D.str "won", D.str "lost"].all flD) = true then some (D.bl (if false = true then !([D.str "won", D.str "lost"].any fun e => eqF e (.str s)) else ([D.str "won", D.str "lost"].any fun e => eqF e (.str s)))) else none) = _
    rw [show (flD (.str s) && [D.str "won", D.str "lost"].all flD) = true from rfl, if_pos rfl, if_neg Bool.false_ne_true]
  rw [e]
  have f : ([D.str "won", D.str "lost"].any fun e => eqF e (.str s)) = (decide (s = "won") || decide (s = "lost")) := by
    show (((("won" : Str) == s) || ((("lost" : Str) == s) || false))) = _
    rw [Bool.or_false, Bool.eq_iff_iff, Bool.or_eq_true, Bool.or_eq_true, beq_iff_eq, beq_iff_eq, decide_eq_true_eq, decide_eq_true_eq]
    exact ⟨fun h => h.imp Eq.symm Eq.symm, fun h => h.imp Eq.symm Eq.symm⟩
  rw [f]
theorem len_zero {v : D} {l : List D} (h : sq v = some l) (m : Sto) : lz v = decide ((l.length : Int) = 0) ∧ lp v = decide ((0 : Int) < l.length) := by
  unfold lz lp
  rw [h]
  cases l with
  | nil => exact ⟨rfl, rfl⟩
  | cons a l =>
    refine ⟨?_, ?_⟩
    · show false = _
      rw [eq_comm, decide_eq_false_iff_not, List.length_cons]; omega
    · show true = _
      rw [eq_comm, decide_eq_true_eq, List.length_cons]; omega
theorem e_entry_str {d v : D} {s : Str} (hs : sq d = some [.str s, v]) (ok : PyData.strOk s = true) (g : gd d = true) {many : Int} (h0 : 0 ≤ many) (hm : many ≤ 1000) (m : Sto) : F_is_entry [.dat d, .dat (.int many)] m = some (.dat (.bl (entOk s v many)), m) := by
  have gv := gdAll_mem (sq_gd g hs) v (by simp)
  have i0 := ix_sq (n := 0) hs rfl m
  have i1 := ix_sq (n := 1) hs rfl m
  simp only [Int.natCast_zero, Int.natCast_one] at i0 i1
  refine body_rt0 (ρ' := [some (.dat d), some (.dat (.int many))]) ?_
  show b_is_entry [some (.dat d), some (.dat (.int many))] m = _
  unfold b_is_entry
  have gs : gd (.str s) = true := rfl
  have e1 := eqQ_str ok ok_drawn m
  unfold entOk
  by_cases hd : s = "drawn"
  · subst hd
    cases hv : sq v with
    | none =>
      have : lz v = false := by unfold lz; rw [hv]
      simp [dSeq_s, e_listed g, isS_some hs, len_sq hs, i0, i1, isi_str gs, e1, e_listed gv, isS_none hv, this]
    | some l =>
      simp [dSeq_s, e_listed g, isS_some hs, len_sq hs, i0, i1, isi_str gs, e1, e_listed gv, isS_some hv, len_sq hv, (len_zero hv m).1]
  · cases hf : frontOk v many with
    | false =>
      generalize hw : (decide (s = "won") || decide (s = "lost")) = W
      have e3 := in_wl s
      rw [hw] at e3
      simp [dSeq_s, e_listed g, isS_some hs, len_sq hs, i0, i1, isi_str gs, e1, hd, dTup, datAll, lim, e3, e_front gv h0 hm, hf]
    | true =>
      obtain ⟨l, hv⟩ := front_sq hf
      have e2 := (len_zero hv m).2
      generalize hw : (decide (s = "won") || decide (s = "lost")) = W
      have e3 := in_wl s
      rw [hw] at e3
      simp [dSeq_s, e_listed g, isS_some hs, len_sq hs, i0, i1, isi_str gs, e1, hd, dTup, datAll, lim, e3, e_front gv h0 hm, hf, len_sq hv, e2]
      cases W <;> rfl
theorem e_entry_no {d : D} (g : gd d = true) (h : ∀ l, sq d = some l → l.length ≠ 2 ∨ ∃ e v, l = [e, v] ∧ (match e with | .str _ => false | _ => true) = true) {many : Int} (m : Sto) : F_is_entry [.dat d, .dat (.int many)] m = some (.dat (.bl false), m) := by
  refine body_rt0 (ρ' := [some (.dat d), some (.dat (.int many))]) ?_
  show b_is_entry [some (.dat d), some (.dat (.int many))] m = _
  unfold b_is_entry
  cases hs : sq d with
  | none => simp [dSeq_s, e_listed g, isS_none hs]
  | some l =>
    rcases h l hs with z | ⟨e, v, rfl, hq⟩
    · have : ¬ ((l.length : Int) = 2) := by omega
      simp [dSeq_s, e_listed g, isS_some hs, len_sq hs, this]
    · have i0 := ix_sq (n := 0) hs rfl m
      simp only [Int.natCast_zero] at i0
      have ge := gdAll_mem (sq_gd g hs) e (by simp)
      have is := isi_str ge m
      cases e with
      | str s => cases hq
      | _ => simp [dSeq_s, e_listed g, isS_some hs, len_sq hs, i0, is]
end K28
set_option Elab.async false
set_option linter.all false
set_option maxRecDepth 100000
namespace K28
open PySem PySem.Spec PyProof.Rows L2 Dn
/-! ### the pen -/
def penS (cells : List Int) (t rest : Int) : Sto := [.lst [.lst (cells.map .int), .int t, .int rest]]
def PenAt (n : Nat) (m : Sto) : Prop := ∃ (cells : List Int) (t rest : Int), m = penS cells t rest ∧ cells.length ≤ 63 ∧ 0 ≤ t ∧ t ≤ n ∧ 0 ≤ rest
theorem PenAt.len {n : Nat} {m : Sto} (h : PenAt n m) : m.length = 1 := by
  obtain ⟨_, _, _, rfl, _⟩ := h; rfl
theorem PenAt.mono {n n' : Nat} {m : Sto} (h : PenAt n m) (k : n ≤ n') : PenAt n' m := by
  obtain ⟨c, t, r, e, h1, h2, h3, h4⟩ := h
  exact ⟨c, t, r, e, h1, h2, by omega, h4⟩
theorem mulI {i j : Int} (h : sml i = true ∨ sml j = true) : mulD (.int i) (.int j) = some (.int (i * j)) := by
  show (if sml i || sml j then _ else _) = _
  rw [if_pos (by rcases h with h | h <;> simp [h])]
theorem divI {i j : Int} (h : 0 < j) (k : j < 1073741824) : divD (.int i) (.int j) = some (.int (i / j)) := by
  show (if decide (0 < j) && decide (j < 1073741824) then _ else _) = _
  rw [if_pos (by simp [h, k])]
theorem modI {i j : Int} (h : 0 < j) : modD (.int i) (.int j) = some (.int (i % j)) := by
  show (if decide (0 < j) then _ else _) = _
  rw [if_pos (by simp [h])]
theorem powI {i j : Int} (h0 : 0 ≤ j) (h1 : j ≤ 1000) (h : i.natAbs < 2 ^ 64) : powD (.int i) (.int j) = some (.int (i ^ j.toNat)) := by
  show (if decide (0 ≤ j) && decide (j ≤ 1000) && decide (i.natAbs < 2 ^ 64) then _ else _) = _
  rw [if_pos (by simp [h0, h1, h])]
theorem sml_of {i : Int} (h : -1000000000000 < i) (k : i < 1000000000000) : sml i = true := by
  rw [sml_iff]; omega
theorem px0 (c : List Int) (t r : Int) : ixV (.obj 0) (.dat (.int 0)) (penS c t r) = some (.dat (.lst (c.map .int)), penS c t r) := rfl
theorem px1 (c : List Int) (t r : Int) : ixV (.obj 0) (.dat (.int 1)) (penS c t r) = some (.dat (.int t), penS c t r) := rfl
theorem px2 (c : List Int) (t r : Int) : ixV (.obj 0) (.dat (.int 2)) (penS c t r) = some (.dat (.int r), penS c t r) := rfl
theorem ps1 {fe fi fo : EDen} {ρ : Envr} {c : List Int} {t r v : Int} (h1 : fe ρ (penS c t r) = some (.dat (.int v), penS c t r)) (h2 : fo ρ (penS c t r) = some (.obj 0, penS c t r)) (h3 : fi ρ (penS c t r) = some (.dat (.int 1), penS c t r)) : dSetIx fe fo fi ρ (penS c t r) = some (.nx, ρ, penS c v r) := by
  unfold dSetIx
  rw [h1, Option.bind_some, h2, Option.bind_some, h3]; rfl
theorem ps2 {fe fi fo : EDen} {ρ : Envr} {c : List Int} {t r v : Int} (h1 : fe ρ (penS c t r) = some (.dat (.int v), penS c t r)) (h2 : fo ρ (penS c t r) = some (.obj 0, penS c t r)) (h3 : fi ρ (penS c t r) = some (.dat (.int 2), penS c t r)) : dSetIx fe fo fi ρ (penS c t r) = some (.nx, ρ, penS c t v) := by
  unfold dSetIx
  rw [h1, Option.bind_some, h2, Option.bind_some, h3]; rfl
@[simp] theorem intF_int {i : Int} {m : Sto} : intF [.dat (.int i)] m = some (.dat (.int i), m) := rfl
@[simp] theorem intF_bl {b : Bool} {m : Sto} : intF [.dat (.bl b)] m = some (.dat (.int (if b then 1 else 0)), m) := rfl
@[simp] theorem absF_int {i : Int} {m : Sto} : absF [.dat (.int i)] m = some (.dat (.int (if i < 0 then -i else i)), m) := rfl
theorem penS_take (c : List Int) (t r : Int) (c' : List Int) (t' r' : Int) : (penS c t r).take (penS c' t' r').length = penS c t r := rfl
theorem e_draw {n : Nat} {m : Sto} (h : PenAt n m) (hn : n ≤ 100000) {k : Int} (k0 : 0 < k) (k1 : k ≤ 1000) : ∃ i m', F__law_draw [.obj 0, .dat (.int k)] m = some (.dat (.int i), m') ∧ 0 ≤ i ∧ i < k ∧ PenAt (n + 1) m' := by
  obtain ⟨c, t, r, rfl, hc, t0, tn, r0⟩ := h
  have fin : ∀ {i : Int} {c' : List Int} {t' r' : Int} {ρ' : Envr}, b__law_draw [some (.obj 0), some (.dat (.int k)), none, none, none, none] (penS c t r) = some (.rt (.dat (.int i)), ρ', penS c' t' r') → 0 ≤ i → i < k → c'.length ≤ 63 → 0 ≤ t' → t' ≤ (n : Int) + 1 → 0 ≤ r' →
      ∃ i m', F__law_draw [.obj 0, .dat (.int k)] (penS c t r) = some (.dat (.int i), m') ∧ 0 ≤ i ∧ i < k ∧ PenAt (n + 1) m' := fun {i c' t' r' ρ'} e h1 h2 h3 h4 h5 h6 =>
    ⟨i, _, body_rtk (n := N__law_draw.length) (xs := [.obj 0, .dat (.int k)]) e, h1, h2, c', t', r', rfl, h3, h4, by omega, h6⟩
  have md : ∀ x : Int, 0 ≤ x % k ∧ x % k < k := fun x => ⟨Int.emod_nonneg _ (by omega), Int.emod_lt_of_pos _ k0⟩
  by_cases hr : 0 < r
  · have e : b__law_draw [some (.obj 0), some (.dat (.int k)), none, none, none, none] (penS c t r) = some (.rt (.dat (.int (r % k))), [some (.obj 0), some (.dat (.int k)), none, none, none, some (.dat (.int r))], penS c t (r / k)) := by
      unfold b__law_draw
      have es := ps2 (fe := dOp qDiv (dVar 5) (dVar 1)) (fo := dVar 0) (fi := dC (.int 2)) (ρ := [some (.obj 0), some (.dat (.int k)), none, none, none, some (.dat (.int r))]) (c := c) (t := t) (r := r) (v := r / k) (by simp [divI k0 (show k < 1073741824 by omega)]) (by simp) (by simp)
      simp [dSeq_s, px2, hr, es, modI k0]
    exact fin e (md r).1 (md r).2 hc t0 (by omega) (Int.ediv_nonneg r0 (by omega))
  · -- the cell
    have hcell : ∃ z : Int, ∀ ρ4 : Envr, ρ4 = [some (.obj 0), some (.dat (.int k)), some (.dat (.int t)), some (.dat (.int (61627 * t + 29201))), none, none] →
        dIfS (dTst (dOp neQ (dOp ixV (dVar 0) (dC (.int 0))) (dLst dNil))) (dSet 3 (dOp ixV (dOp ixV (dVar 0) (dC (.int 0))) (dOp qMod (dCal intF (dCons (dVar 2) dNil)) (dCal lenF (dCons (dOp ixV (dVar 0) (dC (.int 0))) dNil))))) dNext ρ4 (penS c (t + 1) r) = some (.nx, [some (.obj 0), some (.dat (.int k)), some (.dat (.int t)), some (.dat (.int z)), none, none], penS c (t + 1) r) := by
      cases hcs : c with
      | nil =>
        refine ⟨61627 * t + 29201, ?_⟩
        rintro _ rfl
        simp [px0]
      | cons x xs =>
        rw [← hcs]
        have hl : 0 < c.length := by rw [hcs]; simp
        have hlI : (0 : Int) < c.length := by omega
        have b1 := Int.emod_nonneg t (show (c.length : Int) ≠ 0 by omega)
        have b2 := Int.emod_lt_of_pos t hlI
        have hlt : (t % c.length).toNat < c.length := by omega
        refine ⟨c[(t % c.length).toNat], ?_⟩
        rintro _ rfl
        have ia : L2.atI (c.map D.int) (t % c.length) = some (.int c[(t % c.length).toNat]) := by
          have := L2.atI_nat (xs := c.map D.int) (j := (t % c.length).toNat) (v := .int c[(t % c.length).toNat]) (by rw [List.getElem?_map, List.getElem?_eq_getElem hlt]; rfl)
          rwa [Int.toNat_of_nonneg b1] at this
        have ix : ∀ m, ixV (.dat (.lst (c.map D.int))) (.dat (.int (t % c.length))) m = some (.dat (.int c[(t % c.length).toNat]), m) := fun m => by
          show (L2.atI (c.map D.int) (t % c.length)).map _ = _
          rw [ia]; rfl
        have ne : (c.map D.int).isEmpty = false := by rw [hcs]; rfl
        simp [px0, ne, modI hlI, ix]
    obtain ⟨z, hz⟩ := hcell
    have p0 : dSetIx (dOp qAdd (dVar 2) (dC (.int 1))) (dVar 0) (dC (.int 1)) [some (.obj 0), some (.dat (.int k)), some (.dat (.int t)), none, none, none] (penS c t r) = some (.nx, [some (.obj 0), some (.dat (.int k)), some (.dat (.int t)), none, none, none], penS c (t + 1) r) := ps1 (by simp) (by simp) (by simp)
    have m1 : mulD (.int 61627) (.int t) = some (.int (61627 * t)) := mulI (.inl (by decide))
    have r' : ¬ (0 : Int) < r := hr
    have s0 : dIfS (dTst (dOp qGt (dOp ixV (dVar 0) (dC (.int 2))) (dC (.int 0)))) (dSeq (dSet 5 (dCal intF (dCons (dOp ixV (dVar 0) (dC (.int 2))) dNil))) (dSeq (dSetIx (dOp qDiv (dVar 5) (dVar 1)) (dVar 0) (dC (.int 2))) (dRet (dOp qMod (dCal intF (dCons (dVar 5) dNil)) (dVar 1))))) dNext [some (.obj 0), some (.dat (.int k)), none, none, none, none] (penS c t r) = some (.nx, [some (.obj 0), some (.dat (.int k)), none, none, none, none], penS c t r) := by
      simp [px2, r']
    have s2 : dSet 2 (dOp ixV (dVar 0) (dC (.int 1))) [some (.obj 0), some (.dat (.int k)), none, none, none, none] (penS c t r) = some (.nx, [some (.obj 0), some (.dat (.int k)), some (.dat (.int t)), none, none, none], penS c t r) := by
      simp [px1]
    have s3 : dSet 3 (dOp qAdd (dOp qMul (dC (.int 61627)) (dVar 2)) (dC (.int 29201))) [some (.obj 0), some (.dat (.int k)), some (.dat (.int t)), none, none, none] (penS c (t + 1) r) = some (.nx, [some (.obj 0), some (.dat (.int k)), some (.dat (.int t)), some (.dat (.int (61627 * t + 29201))), none, none], penS c (t + 1) r) := by
      simp [m1]
    -- what follows the cell
    by_cases hbig : t < c.length ∧ (1000000000000000000 : Int) ≤ (if z < 0 then -z else z)
    · obtain ⟨hb1, hb2⟩ := hbig
      have q0 : 0 ≤ 2 * ((if z < 0 then -z else z) - 1000000000000000000) + (if decide (z < 0) = true then 1 else 0) := by
        split <;> omega
      generalize hw : 2 * ((if z < 0 then -z else z) - 1000000000000000000) + (if decide (z < 0) = true then 1 else 0) = w at q0
      have e2 : dSetIx (dOp qDiv (dCal intF (dCons (dVar 5) dNil)) (dVar 1)) (dVar 0) (dC (.int 2)) [some (.obj 0), some (.dat (.int k)), some (.dat (.int t)), some (.dat (.int z)), none, some (.dat (.int w))] (penS c (t + 1) r) = some (.nx, [some (.obj 0), some (.dat (.int k)), some (.dat (.int t)), some (.dat (.int z)), none, some (.dat (.int w))], penS c (t + 1) (w / k)) :=
        ps2 (by simp [divI k0 (show k < 1073741824 by omega)]) (by simp) (by simp)
      have e5 : dSet 5 (dOp qAdd (dOp qMul (dC (.int 2)) (dOp qSub (dCal absF (dCons (dVar 3) dNil)) (dOp qPow (dC (.int 10)) (dC (.int 18))))) (dCal intF (dCons (dOp qLt (dVar 3) (dC (.int 0))) dNil))) [some (.obj 0), some (.dat (.int k)), some (.dat (.int t)), some (.dat (.int z)), none, none] (penS c (t + 1) r) = some (.nx, [some (.obj 0), some (.dat (.int k)), some (.dat (.int t)), some (.dat (.int z)), none, some (.dat (.int w))], penS c (t + 1) r) := by
        rw [← hw]
        simp only [dSet_s, dOp_s, dCal_s, dCons_s, dNil_s, dC_s, dVar_s (x := .dat (.int z)) (show ([some (Vl.obj 0), some (.dat (.int k)), some (.dat (.int t)), some (.dat (.int z)), none, none] : Envr)[3]? = _ from rfl), Option.bind_some, absF_int, lift2_s, powD_18, Option.map_some, subI_s, mulI (j := (if z < 0 then -z else z) - 1000000000000000000) (.inl (show sml 2 = true by decide)), cmpI_s, intF_bl, addI_s]
        rfl
      have hb2' : decide ((1000000000000000000 : Int) ≤ (if z < 0 then -z else z)) = true := decide_eq_true hb2
      have e : b__law_draw [some (.obj 0), some (.dat (.int k)), none, none, none, none] (penS c t r) = some (.rt (.dat (.int (w % k))), [some (.obj 0), some (.dat (.int k)), some (.dat (.int t)), some (.dat (.int z)), none, some (.dat (.int w))], penS c (t + 1) (w / k)) := by
        unfold b__law_draw
        have t1 : dTAnd (dTst (dOp qLt (dVar 2) (dCal lenF (dCons (dOp ixV (dVar 0) (dC (.int 0))) dNil)))) (dTst (dOp qGe (dCal absF (dCons (dVar 3) dNil)) (dOp qPow (dC (.int 10)) (dC (.int 18))))) [some (.obj 0), some (.dat (.int k)), some (.dat (.int t)), some (.dat (.int z)), none, none] (penS c (t + 1) r) = some (true, penS c (t + 1) r) := by
          simp [px0, hb1]
          exact hb2
        rw [seq_nx s0, seq_nx s2, seq_nx p0, seq_nx s3, seq_nx (hz _ rfl), dSeq_s, dIfS_s, t1, Option.bind_some, if_pos rfl, seq_nx e5, seq_nx e2]
        simp [modI k0]
      exact fin e (md w).1 (md w).2 hc (by omega) (by omega) (Int.ediv_nonneg q0 (by omega))
    · have t1 : dTAnd (dTst (dOp qLt (dVar 2) (dCal lenF (dCons (dOp ixV (dVar 0) (dC (.int 0))) dNil)))) (dTst (dOp qGe (dCal absF (dCons (dVar 3) dNil)) (dOp qPow (dC (.int 10)) (dC (.int 18))))) [some (.obj 0), some (.dat (.int k)), some (.dat (.int t)), some (.dat (.int z)), none, none] (penS c (t + 1) r) = some (false, penS c (t + 1) r) := by
        by_cases h1 : t < c.length
        · have h2 : ¬ (1000000000000000000 : Int) ≤ (if z < 0 then -z else z) := fun h => hbig ⟨h1, h⟩
          simp [px0, h1]
          omega
        · simp [px0, h1]
      have z1 := Int.emod_nonneg z (show (2147483549 : Int) ≠ 0 by decide)
      have z2 := Int.emod_lt_of_pos z (show (0 : Int) < 2147483549 by decide)
      generalize hA : z % 2147483549 = za at z1 z2
      have w1 := Int.emod_nonneg ((za + 90373 * t + 2591) ^ 5) (show (2147483563 : Int) ≠ 0 by decide)
      have w2 := Int.emod_lt_of_pos ((za + 90373 * t + 2591) ^ 5) (show (0 : Int) < 2147483563 by decide)
      have e4 : dSet 4 (dOp qMod (dCal intF (dCons (dOp qPow (dOp qAdd (dOp qAdd (dOp qMod (dCal intF (dCons (dVar 3) dNil)) (dC (.int 2147483549))) (dOp qMul (dC (.int 90373)) (dVar 2))) (dC (.int 2591))) (dC (.int 5))) dNil)) (dC (.int 2147483563))) [some (.obj 0), some (.dat (.int k)), some (.dat (.int t)), some (.dat (.int z)), none, none] (penS c (t + 1) r) = some (.nx, [some (.obj 0), some (.dat (.int k)), some (.dat (.int t)), some (.dat (.int z)), some (.dat (.int ((za + 90373 * t + 2591) ^ 5 % 2147483563))), none], penS c (t + 1) r) := by
        simp [modI (show (0 : Int) < 2147483549 by decide), hA, mulI (i := 90373) (j := t) (.inl (by decide)), powI (i := za + 90373 * t + 2591) (j := 5) (by decide) (by decide) (by omega), modI (show (0 : Int) < 2147483563 by decide)]
      generalize hB : (za + 90373 * t + 2591) ^ 5 % 2147483563 = mb at w1 w2 e4
      have sq1 : 0 ≤ t * t := Int.mul_nonneg t0 t0
      have sq2 : t * t ≤ 100000 * 100000 := Int.mul_le_mul (by omega) (by omega) t0 (by decide)
      have pr1 : 0 ≤ mb * (2 * t + 2591) := Int.mul_nonneg w1 (by omega)
      have pr2 : mb * (2 * t + 2591) ≤ 2147483563 * 202591 := Int.mul_le_mul (by omega) (by omega) (by omega) (by decide)
      have tt : 61627 * t * t = 61627 * (t * t) := Int.mul_assoc ..
      have e6 : dSet 4 (dOp qMod (dCal intF (dCons (dOp qPow (dOp qAdd (dOp qAdd (dOp qMul (dVar 4) (dOp qAdd (dOp qMul (dC (.int 2)) (dVar 2)) (dC (.int 2591)))) (dOp qMul (dOp qMul (dC (.int 61627)) (dVar 2)) (dVar 2))) (dC (.int 90373))) (dC (.int 3))) dNil)) (dC (.int 2147483587))) [some (.obj 0), some (.dat (.int k)), some (.dat (.int t)), some (.dat (.int z)), some (.dat (.int mb)), none] (penS c (t + 1) r) = some (.nx, [some (.obj 0), some (.dat (.int k)), some (.dat (.int t)), some (.dat (.int z)), some (.dat (.int ((mb * (2 * t + 2591) + 61627 * t * t + 90373) ^ 3 % 2147483587))), none], penS c (t + 1) r) := by
        simp [mulI (i := 2) (j := t) (.inl (by decide)), mulI (i := mb) (j := 2 * t + 2591) (.inl (sml_of (by omega) (by omega))), m1, mulI (i := 61627 * t) (j := t) (.inr (sml_of (by omega) (by omega))), powI (i := mb * (2 * t + 2591) + 61627 * t * t + 90373) (j := 3) (by decide) (by decide) (by omega), modI (show (0 : Int) < 2147483587 by decide)]
      generalize (mb * (2 * t + 2591) + 61627 * t * t + 90373) ^ 3 % 2147483587 = mc at e6
      have e : b__law_draw [some (.obj 0), some (.dat (.int k)), none, none, none, none] (penS c t r) = some (.rt (.dat (.int (mc / 64 % k))), [some (.obj 0), some (.dat (.int k)), some (.dat (.int t)), some (.dat (.int z)), some (.dat (.int mc)), none], penS c (t + 1) r) := by
        unfold b__law_draw
        rw [seq_nx s0, seq_nx s2, seq_nx p0, seq_nx s3, seq_nx (hz _ rfl), dSeq_s, dIfS_s, t1, Option.bind_some, if_neg Bool.false_ne_true, dNext_s, seqO_nx, seq_nx e4, seq_nx e6]
        simp [divI (i := mc) (j := 64) (by decide) (by decide), modI k0]
      exact fin e (md _).1 (md _).2 hc (by omega) (by omega) r0
end K28
set_option Elab.async false
set_option linter.all false
set_option maxRecDepth 100000
namespace K28
open PySem PySem.Spec PyProof.Rows L2 Dn
/-! ### what is drawn -/
theorem upInts_len (lo : Int) : ∀ n, (upInts lo n).length = n := fun n => by unfold upInts; simp
theorem e_pick {n : Nat} {m : Sto} (h : PenAt n m) (hn : n ≤ 100000) {l : List D} (l0 : 0 < l.length) (l1 : l.length ≤ 1000) : ∃ d m', d ∈ l ∧ F__law_pick [.obj 0, .dat (.lst l)] m = some (.dat d, m') ∧ PenAt (n + 1) m' := by
  obtain ⟨i, m', e, i0, i1, h'⟩ := e_draw h hn (k := l.length) (by omega) (by omega)
  have hlt : i.toNat < l.length := by omega
  refine ⟨l[i.toNat], m', List.getElem_mem hlt, ?_, h'⟩
  have hm : m'.take m.length = m' := by rw [h.len, ← h'.len, List.take_length]
  refine body_rt (ρ' := [some (.obj 0), some (.dat (.lst l))]) ?_ hm
  show b__law_pick [some (.obj 0), some (.dat (.lst l))] m = _
  unfold b__law_pick
  have ia := ix_sq (d := .lst l) (n := i.toNat) rfl (List.getElem?_eq_getElem hlt) m'
  rw [Int.toNat_of_nonneg i0] at ia
  simp [e, ia]
def smallI (i : Int) : Prop := 0 ≤ i ∧ i ≤ 1000
def smallC (c : Cn) : Prop := smallI c.1 ∧ (∀ i ∈ c.2.1, smallI i) ∧ ∀ i ∈ c.2.2, smallI i
theorem draws_ints {P : Int → Prop} : ∀ {ys : List D}, (∀ y ∈ ys, ∃ i, y = .int i ∧ P i) → ∃ ns : List Int, ys = ns.map .int ∧ ∀ i ∈ ns, P i
  | [], _ => ⟨[], rfl, fun i h => (by cases h)⟩
  | y :: ys, h => by
    obtain ⟨i, rfl, hi⟩ := h y List.mem_cons_self
    obtain ⟨ns, rfl, hn⟩ := draws_ints fun y hy => h y (List.mem_cons_of_mem _ hy)
    exact ⟨i :: ns, rfl, fun j hj => by
      rcases List.mem_cons.mp hj with rfl | hj
      · exact hi
      · exact hn j hj⟩
theorem iR1_eq {f : EDen} {ρ : Envr} {m m' : Sto} {j : Int} (e : f ρ m = some (.dat (.int j), m')) (h0 : 0 ≤ j) (h1 : j ≤ 1000) : Dn.iR1 f ρ m = some (⟨upInts 0 j.toNat, none⟩, m') := by
  unfold Dn.iR1
  rw [e]
  show (if decide (j < 1000000) && decide (-1000000 < j) then _ else _) = _
  rw [if_pos (by simp; omega)]
theorem e_dcorner {n : Nat} {m : Sto} (h : PenAt n m) (hn : n ≤ 90000) {many : Int} (m0 : 1 ≤ many) (m1 : many ≤ 3) : ∃ (c : Cn) (m' : Sto), F__law_corner [.obj 0, .dat (.int many)] m = some (.dat (toC c), m') ∧ (c.2.1.length = many.toNat ∧ c.2.2.length = many.toNat) ∧ smallC c ∧ PenAt (n + 7) m' := by
  have tk : ∀ {n' : Nat} {m' : Sto}, PenAt n' m' → m'.take m.length = m' := fun h' => by rw [h.len, ← h'.len, List.take_length]
  -- the limits
  obtain ⟨ys, ma, e1, l1, p1, h1⟩ := dLc_wp (fi := Dn.iR1 (dVar 1)) (g := gNm 3) (f := dOp qAdd (dC (.int 1)) (dCal F__law_draw (dCons (dVar 0) (dCons (dC (.int 5)) dNil)))) (vs := [3]) (ρ := [some (.obj 0), some (.dat (.int many)), none, none, none]) (m := m)
    (fun i m => PenAt (n + i) m) (fun y => ∃ i, y = .int i ∧ (1 ≤ i ∧ i ≤ 5)) (iR1_eq (j := many) (m' := m) (by simp) (by omega) (by omega)) (by rw [upInts_len]; omega) (by simpa using h) (fun d hd i m hi hp => by
      rw [upInts_len] at hi
      obtain ⟨v, m2, e, v0, v1, h2⟩ := e_draw hp (by omega) (k := 5) (by omega) (by omega)
      exact ⟨_, .int (1 + v), m2, gNm_s, by simp [e], ⟨1 + v, rfl, by omega, by omega⟩, h2⟩)
  rw [upInts_len] at l1 h1
  obtain ⟨ls, rfl, hls⟩ := draws_ints p1
  rw [List.length_map] at l1
  -- the plies
  obtain ⟨a, mb, e2, a0, a1, h2⟩ := e_draw h1 (by omega) (k := 7) (by omega) (by omega)
  -- the rests
  obtain ⟨zs, mc, e3, l3, p3, h3⟩ := dLc_wp (fi := iSeq (dVar 2)) (g := gNm 4) (f := dCal F__law_draw (dCons (dVar 0) (dCons (dOp qAdd (dVar 4) (dC (.int 1))) dNil))) (vs := [4]) (ρ := [some (.obj 0), some (.dat (.int many)), some (.dat (.tup (ls.map .int))), none, none]) (m := mb)
    (fun i m => PenAt (n + many.toNat + 1 + i) m) (fun y => ∃ i, y = .int i ∧ (0 ≤ i ∧ i ≤ 5)) (iSeq_sq (d := .tup (ls.map .int)) (l := ls.map .int) rfl (by simp)) (by rw [List.length_map]; omega) (by simpa using h2) (fun d hd i m hi hp => by
      rw [List.length_map] at hi
      obtain ⟨x, hx, rfl⟩ := List.mem_map.mp hd
      have hb := hls x hx
      obtain ⟨v, m2, e, v0, v1, h2⟩ := e_draw hp (by omega) (k := x + 1) (by omega) (by omega)
      exact ⟨_, .int v, m2, gNm_s, by simp [e], ⟨v, rfl, by omega, by omega⟩, h2⟩)
  rw [List.length_map] at l3 h3
  obtain ⟨rs, rfl, hrs⟩ := draws_ints p3
  rw [List.length_map] at l3
  refine ⟨(a, ls, rs), mc, ?_, ⟨l1, by show rs.length = _; omega⟩, ⟨⟨a0, by omega⟩, fun i hi => ?_, fun i hi => ?_⟩, h3.mono (by omega)⟩
  · refine body_rt (ρ' := [some (.obj 0), some (.dat (.int many)), some (.dat (.tup (ls.map .int))), none, none]) ?_ (tk h3)
    show b__law_corner [some (.obj 0), some (.dat (.int many)), none, none, none] m = _
    unfold b__law_corner
    simp [dSeq_s, e1, tupF, seqV, lstV, dTup, e2, e3, datAll, lim, toC, tI]
  · have := hls i hi
    exact ⟨by omega, by omega⟩
  · have := hrs i hi
    exact ⟨by omega, by omega⟩
theorem draws_toC {P : Cn → Prop} : ∀ {ys : List D}, (∀ y ∈ ys, ∃ c, y = toC c ∧ P c) → ∃ cs : List Cn, ys = cs.map toC ∧ ∀ c ∈ cs, P c
  | [], _ => ⟨[], rfl, fun i h => (by cases h)⟩
  | y :: ys, h => by
    obtain ⟨i, rfl, hi⟩ := h y List.mem_cons_self
    obtain ⟨ns, rfl, hn⟩ := draws_toC fun y hy => h y (List.mem_cons_of_mem _ hy)
    exact ⟨i :: ns, rfl, fun j hj => by
      rcases List.mem_cons.mp hj with rfl | hj
      · exact hi
      · exact hn j hj⟩
def goodC (k : Nat) (c : Cn) : Prop := (c.2.1.length = k ∧ c.2.2.length = k) ∧ smallC c
theorem e_dfront {n : Nat} {m : Sto} (h : PenAt n m) (hn : n ≤ 80000) {many : Int} (m0 : 1 ≤ many) (m1 : many ≤ 3) : ∃ (cs : List Cn) (m' : Sto), F__law_front [.obj 0, .dat (.int many)] m = some (.dat (.tup (cs.map toC)), m') ∧ cs.length ≤ 5 ∧ (∀ c ∈ cs, goodC many.toNat c) ∧ PenAt (n + 36) m' := by
  have tk : ∀ {n' : Nat} {m' : Sto}, PenAt n' m' → m'.take m.length = m' := fun h' => by rw [h.len, ← h'.len, List.take_length]
  obtain ⟨v, ma, e1, v0, v1, h1⟩ := e_draw h (by omega) (k := 5) (by omega) (by omega)
  obtain ⟨ys, mb, e2, l2, p2, h2⟩ := dLc_wp (fi := Dn.iR1 (dOp qAdd (dC (.int 1)) (dCal F__law_draw (dCons (dVar 0) (dCons (dC (.int 5)) dNil))))) (g := gNm 2) (f := dCal F__law_corner (dCons (dVar 0) (dCons (dVar 1) dNil))) (vs := [2]) (ρ := [some (.obj 0), some (.dat (.int many)), none]) (m := m)
    (fun i m => PenAt (n + 1 + 7 * i) m) (fun y => ∃ c, y = toC c ∧ goodC many.toNat c) (iR1_eq (j := 1 + v) (m' := ma) (by simp [e1]) (by omega) (by omega)) (by rw [upInts_len]; omega) (by simpa using h1) (fun d hd i m hi hp => by
      rw [upInts_len] at hi
      obtain ⟨c, m2, e, lc, sc, h2⟩ := e_dcorner hp (by omega) m0 m1
      exact ⟨_, toC c, m2, gNm_s, by simp [e], ⟨c, rfl, lc, sc⟩, h2⟩)
  rw [upInts_len] at l2 h2
  obtain ⟨cs, rfl, hcs⟩ := draws_toC p2
  rw [List.length_map] at l2
  have ev : Even many.toNat cs := fun c hc => (hcs c hc).1
  have ek := e_lcut (k := many.toNat) (by omega) ev (by omega) mb
  have cf := cutM_filter (even_srt ev) (srt_le cs) (srt_nodup cs)
  refine ⟨cutM (srt cs), mb, ?_, ?_, fun c hc => ?_, h2.mono (by omega)⟩
  · refine body_rt (ρ' := [some (.obj 0), some (.dat (.int many)), none]) ?_ (tk h2)
    show b__law_front [some (.obj 0), some (.dat (.int many)), none] m = _
    unfold b__law_front
    simp [e2, ek]
  · rw [cf]
    have h3 := List.length_filter_le (free (srt cs)) (srt cs)
    have h4 := srt_len cs
    omega
  · rw [cf] at hc
    exact hcs c (srt_mem.mp (List.mem_filter.mp hc).1)
end K28
set_option Elab.async false
set_option linter.all false
set_option maxRecDepth 100000
namespace K28
open PySem PySem.Spec PyProof.Rows L2 Dn
/-! ### something near to a front -/
def nt : Nat → D → Prop
  | 0, _ => False
  | k + 1, d => (∃ i, d = .int i ∧ smallI i) ∨ ∃ l, d = .tup l ∧ l.length ≤ 10 ∧ ∀ e ∈ l, nt k e
theorem gdAll_of : ∀ {l : List D}, (∀ d ∈ l, gd d = true) → gdAll l = true
  | [], _ => rfl
  | d :: l, h => by
    unfold gdAll
    rw [h d List.mem_cons_self, gdAll_of fun e he => h e (List.mem_cons_of_mem _ he)]; rfl
theorem nt_gd : ∀ (k : Nat) (d : D), nt k d → gd d = true
  | 0, _, h => h.elim
  | k + 1, d, h => by
    rcases h with ⟨i, rfl, _⟩ | ⟨l, rfl, _, h⟩
    · rfl
    · show gdAll l = true
      exact gdAll_of fun e he => nt_gd k e (h e he)
theorem cutD_mem {l : List D} {lo hi : Option Int} {e : D} (h : e ∈ Dn.cutD l lo hi) : e ∈ l := List.mem_of_mem_drop (List.mem_of_mem_take h)
theorem cutD_len (l : List D) (lo hi : Option Int) : (Dn.cutD l lo hi).length ≤ l.length := by
  unfold Dn.cutD
  rw [List.length_take, List.length_drop]; omega
noncomputable def nearT : TDen := (dTAnd (dTst (dCal F__law_is_listed (dCons (dVar 1) dNil))) (dTAnd (dTst (dOp qGt (dCal lenF (dCons (dVar 1) dNil)) (dC (.int 0)))) (dTst (dOp qGt (dCal F__law_draw (dCons (dVar 0) (dCons (dC (.int 4)) dNil))) (dC (.int 0))))))
noncomputable def nearA (fr : FDen) : SDen := (dSeq (dSet 2 (dCal F__law_draw (dCons (dVar 0) (dCons (dCal lenF (dCons (dVar 1) dNil)) dNil)))) (dRet (dOp qAdd (dOp qAdd (dCal listF (dCons (dSl slV (dVar 1) dNoPart (dPart (dVar 2))) dNil)) (dLst (dCons (dCal fr (dCons (dVar 0) (dCons (dOp ixV (dVar 1) (dVar 2)) dNil))) dNil))) (dCal listF (dCons (dSl slV (dVar 1) (dPart (dOp qAdd (dVar 2) (dC (.int 1)))) dNoPart) dNil)))))
noncomputable def near6 : SDen := (dRet (dCal F__law_pick (dCons (dVar 0) (dCons (dLst (dCons (dOp qMul (dCal listF (dCons (dVar 1) dNil)) (dC (.int 2))) (dCons (dSl slV (dCal listF (dCons (dVar 1) dNil)) (dPart (dC (.int 1))) dNoPart) (dCons (dRev (dCal listF (dCons (dVar 1) dNil))) (dCons (dC .non) (dCons (dC (.str "ab")) (dCons (dC (.dct [] [])) dNil))))))) dNil))))
noncomputable def nearI : SDen := (dSeq (dIfS (dTst (dCal F__law_is_int (dCons (dVar 1) (dCons (dC (.int 0)) (dCons (dOp qPow (dC (.int 10)) (dC (.int 9))) dNil))))) (dRet (dCal F__law_pick (dCons (dVar 0) (dCons (dLst (dCons (dOp qAdd (dVar 1) (dC (.int 1))) (dCons (dOp qSub (dVar 1) (dC (.int 1))) (dCons (dC (.int 0)) (dCons (dC (.int 1)) (dCons (dOp qPow (dC (.int 10)) (dC (.int 9))) (dCons (dOp qAdd (dOp qPow (dC (.int 10)) (dC (.int 9))) (dC (.int 1))) (dCons (dC (.int 120)) (dCons (dC (.int 121)) (dCons (dC (.bl true)) (dCons (dCal strF (dCons (dVar 1) dNil)) (dCons (dC .non) dNil)))))))))))) dNil)))) dNext) (dRet (dCal F__law_pick (dCons (dVar 0) (dCons (dLst (dCons (dC (.str "won")) (dCons (dC (.str "lost")) (dCons (dC (.str "drawn")) (dCons (dC .non) (dCons (dC (.int 5)) dNil)))))) dNil)))))
theorem near_eq (fr : FDen) : b__law_near_to fr = dSeq (dIfS nearT (nearA fr) dNext) (dSeq (dIfS (dTst (dCal F__law_is_listed (dCons (dVar 1) dNil))) near6 dNext) nearI) := rfl
theorem e_near : ∀ (f : Nat) {n : Nat} {m : Sto} {d : D}, nt f d → PenAt n m → n + 3 * f ≤ 90000 → ∃ r m', F__law_near_to f [.obj 0, .dat d] m = some (.dat r, m') ∧ gd r = true ∧ PenAt (n + 3 * f) m'
  | 0, n, m, d, h, _, _ => h.elim
  | f + 1, n, m, d, h, hp, hn => by
    have tk : ∀ {n' : Nat} {m' : Sto}, PenAt n' m' → m'.take m.length = m' := fun h' => by rw [hp.len, ← h'.len, List.take_length]
    have g := nt_gd _ _ h
    have fin : ∀ {r : D} {m' : Sto} {n' : Nat} {ρ' : Envr}, b__law_near_to (F__law_near_to f) [some (.obj 0), some (.dat d), none] m = some (.rt (.dat r), ρ', m') → gd r = true → PenAt n' m' → n' ≤ n + 3 * (f + 1) →
        ∃ r m', F__law_near_to (f + 1) [.obj 0, .dat d] m = some (.dat r, m') ∧ gd r = true ∧ PenAt (n + 3 * (f + 1)) m' := fun {r m' n' ρ'} e h1 h2 h3 =>
      ⟨r, m', body_rt e (tk h2), h1, h2.mono h3⟩
    rcases h with ⟨i, rfl, i0, i1⟩ | ⟨l, rfl, hl, hall⟩
    · -- a whole number
      have hi : btw (.int i) 0 1000000000 = true := by
        unfold btw
        simp; omega
      have hl : isS (.int i) = false := rfl
      have hs : strF [.dat (.int i)] m = some (.dat (.str (toString i)), m) := by
        show (if decide (i.natAbs < 2 ^ 200) then _ else _) = _
        rw [if_pos (by simp; omega)]
      obtain ⟨e, m', he, e1, h1⟩ := e_pick hp (by omega) (l := [.int (i + 1), .int (i - 1), .int 0, .int 1, .int 1000000000, .int (1000000000 + 1), .int 120, .int 121, .bl true, .str (toString i), .non]) (by simp) (by simp)
      refine fin (r := e) (m' := m') (n' := n + 1) (ρ' := [some (.obj 0), some (.dat (.int i)), none]) ?_ ?_ h1 (by omega)
      · rw [near_eq]
        have q1 : dIfS nearT (nearA (F__law_near_to f)) dNext [some (.obj 0), some (.dat (.int i)), none] m = some (.nx, [some (.obj 0), some (.dat (.int i)), none], m) := by
          unfold nearT
          simp [e_llisted g, hl]
        have q2 : dIfS (dTst (dCal F__law_is_listed (dCons (dVar 1) dNil))) near6 dNext [some (.obj 0), some (.dat (.int i)), none] m = some (.nx, [some (.obj 0), some (.dat (.int i)), none], m) := by
          simp [e_llisted g, hl]
        rw [seq_nx q1, seq_nx q2]
        unfold nearI
        rw [dSeq_s]
        generalize hL : [D.int (i + 1), .int (i - 1), .int 0, .int 1, .int 1000000000, .int (1000000000 + 1), .int 120, .int 121, .bl true, .str (toString i), .non] = L at e1
        have q3 : dLst (dCons (dOp qAdd (dVar 1) (dC (.int 1))) (dCons (dOp qSub (dVar 1) (dC (.int 1))) (dCons (dC (.int 0)) (dCons (dC (.int 1)) (dCons (dOp qPow (dC (.int 10)) (dC (.int 9))) (dCons (dOp qAdd (dOp qPow (dC (.int 10)) (dC (.int 9))) (dC (.int 1))) (dCons (dC (.int 120)) (dCons (dC (.int 121)) (dCons (dC (.bl true)) (dCons (dCal strF (dCons (dVar 1) dNil)) (dCons (dC .non) dNil))))))))))) [some (.obj 0), some (.dat (.int i)), none] m = some (.dat (.lst L), m) := by
          rw [← hL]
          simp [dLst, datAll, lim, hs]
        simp [e_lint g, hi, q3, e1]
      · simp only [List.mem_cons, List.not_mem_nil, or_false] at he
        rcases he with rfl | rfl | rfl | rfl | rfl | rfl | rfl | rfl | rfl | rfl | rfl <;> rfl
    · have gl : gdAll l = true := by unfold gd at g; exact g
      have hls : isS (.tup l) = true := rfl
      -- the pick among six
      have pick6 : ∀ {n1 : Nat} {m1 : Sto}, PenAt n1 m1 → n1 ≤ n + 1 → ∃ r m', gd r = true ∧ PenAt (n1 + 1) m' ∧ near6 [some (.obj 0), some (.dat (.tup l)), none] m1 = some (.rt (.dat r), [some (.obj 0), some (.dat (.tup l)), none], m') := fun {n1 m1} hp1 hn1 => by
        obtain ⟨e, m', he, e1, h1⟩ := e_pick hp1 (by omega) (l := [.lst (repL 2 l), .lst (Dn.cutD l (some 1) none), .lst l.reverse, .non, .str "ab", .dct [] []]) (by simp) (by simp)
        refine ⟨e, m', ?_, h1, ?_⟩
        · simp only [List.mem_cons, List.not_mem_nil, or_false] at he
          rcases he with rfl | rfl | rfl | rfl | rfl | rfl
          · show gdAll _ = true
            refine gdAll_of fun x hx => gdAll_mem gl x ?_
            unfold repL at hx
            simpa using hx
          · show gdAll _ = true
            exact gdAll_of fun x hx => gdAll_mem gl x (cutD_mem hx)
          · show gdAll _ = true
            exact gdAll_of fun x hx => gdAll_mem gl x (List.mem_reverse.mp hx)
          · rfl
          · rfl
          · rfl
        · have em : mulD (.lst l) (.int 2) = some (.lst (repL 2 l)) := by
            show (if decide (-1000000 < (2 : Int)) && decide ((2 : Int) < 1000000) && lim (l.length * (2 : Int).toNat) then _ else _) = _
            rw [if_pos]
            · rfl
            · simp [lim]; omega
          have elist : ∀ m, listF [.dat (.tup l)] m = some (.dat (.lst l), m) := fun _ => rfl
          have esl : ∀ m, slV (.dat (.lst l)) (some 1) none m = some (.dat (.lst (Dn.cutD l (some 1) none)), m) := fun _ => rfl
          have erv : dRev (dCal listF (dCons (dVar 1) dNil)) [some (.obj 0), some (.dat (.tup l)), none] m1 = some (.dat (.lst l.reverse), m1) := by
            unfold dRev
            simp [elist, lstV]
          have esl2 : dSl slV (dCal listF (dCons (dVar 1) dNil)) (dPart (dC (.int 1))) dNoPart [some (.obj 0), some (.dat (.tup l)), none] m1 = some (.dat (.lst (Dn.cutD l (some 1) none)), m1) := by
            unfold dSl dPart dNoPart
            simp [elist, esl]
          unfold near6
          simp [elist, em, erv, esl2, dLst, datAll, lim, e1]
      by_cases h0 : l.length = 0
      · obtain ⟨r, m', gr, h1, er⟩ := pick6 hp (by omega)
        refine fin (ρ' := [some (.obj 0), some (.dat (.tup l)), none]) ?_ gr h1 (by omega)
        obtain rfl := List.length_eq_zero_iff.mp h0
        have q1 : dIfS nearT (nearA (F__law_near_to f)) dNext [some (.obj 0), some (.dat (.tup [])), none] m = some (.nx, [some (.obj 0), some (.dat (.tup [])), none], m) := by
          unfold nearT
          simp [e_llisted g, hls]
        have q2 : dIfS (dTst (dCal F__law_is_listed (dCons (dVar 1) dNil))) near6 dNext [some (.obj 0), some (.dat (.tup [])), none] m = some (.rt (.dat r), [some (.obj 0), some (.dat (.tup [])), none], m') := by
          simp [e_llisted g, hls, er]
        rw [near_eq, seq_nx q1, seq_rt q2]
      · obtain ⟨v, ma, e1, v0, v1, h1⟩ := e_draw hp (by omega) (k := 4) (by omega) (by omega)
        have hpos : (0 : Int) < (l.length : Int) := by omega
        have hposN : 0 < l.length := by omega
        by_cases hv : 0 < v
        · obtain ⟨a, mb, e2, a0, a1, h2⟩ := e_draw h1 (by omega) (k := l.length) (by omega) (by omega)
          have hlt : a.toNat < l.length := by omega
          obtain ⟨r, mc, e3, gr, h3⟩ := e_near f (hall _ (List.getElem_mem hlt)) h2 (by omega)
          have ia := ix_sq (d := .tup l) (n := a.toNat) rfl (List.getElem?_eq_getElem hlt) mb
          rw [Int.toNat_of_nonneg a0] at ia
          have c1 := cutD_len l none (some a)
          have c2 := cutD_len l (some (a + 1)) none
          refine fin (r := .lst (Dn.cutD l none (some a) ++ [r] ++ Dn.cutD l (some (a + 1)) none)) (m' := mc) (n' := n + 2 + 3 * f) (ρ' := [some (.obj 0), some (.dat (.tup l)), some (.dat (.int a))]) ?_ ?_ (by have := h3; exact this.mono (by omega)) (by omega)
          · rw [near_eq]
            have s1 : ∀ m, dSl slV (dVar 1) dNoPart (dPart (dVar 2)) [some (.obj 0), some (.dat (.tup l)), some (.dat (.int a))] m = some (.dat (.tup (Dn.cutD l none (some a))), m) := fun m => by
              unfold dSl dPart dNoPart
              simp [slV, lstV]
            have s2 : ∀ m, dSl slV (dVar 1) (dPart (dOp qAdd (dVar 2) (dC (.int 1)))) dNoPart [some (.obj 0), some (.dat (.tup l)), some (.dat (.int a))] m = some (.dat (.tup (Dn.cutD l (some (a + 1)) none)), m) := fun m => by
              unfold dSl dPart dNoPart
              simp [slV, lstV]
            have elist : ∀ l m, listF [.dat (.tup l)] m = some (.dat (.lst l), m) := fun _ _ => rfl
            have a1 : addD (.lst (Dn.cutD l none (some a))) (.lst [r]) = some (.lst (Dn.cutD l none (some a) ++ [r])) := by
              show (if lim _ then _ else _) = _
              rw [if_pos (by simp [lim]; omega)]
            have a2 : addD (.lst (Dn.cutD l none (some a) ++ [r])) (.lst (Dn.cutD l (some (a + 1)) none)) = some (.lst (Dn.cutD l none (some a) ++ [r] ++ Dn.cutD l (some (a + 1)) none)) := by
              show (if lim _ then _ else _) = _
              rw [if_pos (by simp [lim]; omega)]
            have q1 : nearT [some (.obj 0), some (.dat (.tup l)), none] m = some (true, ma) := by
              unfold nearT
              simp [e_llisted g, hls, hposN, e1, hv]
            have q2 : nearA (F__law_near_to f) [some (.obj 0), some (.dat (.tup l)), none] ma = some (.rt (.dat (.lst (Dn.cutD l none (some a) ++ [r] ++ Dn.cutD l (some (a + 1)) none))), [some (.obj 0), some (.dat (.tup l)), some (.dat (.int a))], mc) := by
              unfold nearA
              have p1 : dSet 2 (dCal F__law_draw (dCons (dVar 0) (dCons (dCal lenF (dCons (dVar 1) dNil)) dNil))) [some (.obj 0), some (.dat (.tup l)), none] ma = some (.nx, [some (.obj 0), some (.dat (.tup l)), some (.dat (.int a))], mb) := by
                simp [e2]
              rw [seq_nx p1]
              generalize Dn.cutD l none (some a) ++ [r] ++ Dn.cutD l (some (a + 1)) none = L at a2
              generalize Dn.cutD l none (some a) ++ [r] = L' at a1 a2
              simp [s1, s2, elist, dLst, datAll, lim, ia, e3, a1, a2]
            have q3 : dIfS nearT (nearA (F__law_near_to f)) dNext [some (.obj 0), some (.dat (.tup l)), none] m = some (.rt (.dat (.lst (Dn.cutD l none (some a) ++ [r] ++ Dn.cutD l (some (a + 1)) none))), [some (.obj 0), some (.dat (.tup l)), some (.dat (.int a))], mc) := by
              rw [dIfS_s, q1, Option.bind_some, if_pos rfl, q2]
            rw [seq_rt q3]
          · show gdAll _ = true
            refine gdAll_of fun x hx => ?_
            rcases List.mem_append.mp hx with hx | hx
            · rcases List.mem_append.mp hx with hx | hx
              · exact gdAll_mem gl x (cutD_mem hx)
              · have : x = r := by simpa using hx
                rw [this]; exact gr
            · exact gdAll_mem gl x (cutD_mem hx)
        · obtain ⟨r, m', gr, h2, er⟩ := pick6 h1 (by omega)
          refine fin (ρ' := [some (.obj 0), some (.dat (.tup l)), none]) ?_ gr h2 (by omega)
          have q1 : dIfS nearT (nearA (F__law_near_to f)) dNext [some (.obj 0), some (.dat (.tup l)), none] m = some (.nx, [some (.obj 0), some (.dat (.tup l)), none], ma) := by
            unfold nearT
            simp [e_llisted g, hls, hposN, e1, hv]
          have q2 : dIfS (dTst (dCal F__law_is_listed (dCons (dVar 1) dNil))) near6 dNext [some (.obj 0), some (.dat (.tup l)), none] ma = some (.rt (.dat r), [some (.obj 0), some (.dat (.tup l)), none], m') := by
            simp [e_llisted g, hls, er]
          rw [near_eq, seq_nx q1, seq_rt q2]
end K28
set_option Elab.async false
set_option linter.all false
set_option maxRecDepth 100000
namespace K28
open PySem PySem.Spec PyProof.Rows L2 Dn
/-! ### the law's parts -/
noncomputable def i0 : SDen := (dSet 10 (dCal F__law_is_front (dCons (dVar 7) (dCons (dVar 8) dNil))))
noncomputable def i1 : SDen := (dIfS (dTst (dOp neQ (dCal reprG (dCons (dLst (dCons (dCal F_is_front (dCons (dVar 7) (dCons (dVar 8) dNil))) (dCons (dCalK F_is_front [1, 0] (dCons (dVar 8) (dCons (dVar 7) dNil))) dNil))) dNil)) (dCal reprG (dCons (dLst (dCons (dVar 10) (dCons (dVar 10) dNil))) dNil)))) (dRet (dC (.bl false))) dNext)
noncomputable def i2 : SDen := (dSet 11 (dCal F__law_pick (dCons (dVar 1) (dCons (dLst (dCons (dTup (dCons (dC (.str "won")) (dCons (dVar 7) dNil))) (dCons (dLst (dCons (dC (.str "lost")) (dCons (dVar 7) dNil))) (dCons (dTup (dCons (dC (.str "drawn")) (dCons (dVar 7) dNil))) (dCons (dTup (dCons (dC (.str "won")) (dCons (dVar 7) (dCons (dC .non) dNil)))) (dCons (dTup (dCons (dC (.str "gone")) (dCons (dVar 7) dNil))) (dCons (dTup (dCons (dC .non) (dCons (dVar 7) dNil))) (dCons (dC (.str "won")) dNil)))))))) dNil))))
noncomputable def w12 : EDen := (dAnd (dNot (dCal isiF (dCons (dVar 11) (dCons (dC (.ty "str")) dNil)))) (dAnd (dOp eqQ (dCal lenF (dCons (dVar 11) dNil)) (dC (.int 2))) (dAnd (dOp qIn (dOp ixV (dVar 11) (dC (.int 0))) (dTup (dCons (dC (.str "won")) (dCons (dC (.str "lost")) dNil)))) (dAnd (dVar 10) (dOp qGt (dCal lenF (dCons (dVar 7) dNil)) (dC (.int 0)))))))
noncomputable def i3 : SDen := dSet 12 w12
noncomputable def w13 : EDen := (dAnd (dNot (dCal isiF (dCons (dVar 11) (dCons (dC (.ty "str")) dNil)))) (dAnd (dOp eqQ (dCal lenF (dCons (dVar 11) dNil)) (dC (.int 2))) (dAnd (dOp eqQ (dOp ixV (dVar 11) (dC (.int 0))) (dC (.str "drawn"))) (dAnd (dCal F__law_is_listed (dCons (dVar 7) dNil)) (dOp eqQ (dCal lenF (dCons (dVar 7) dNil)) (dC (.int 0)))))))
noncomputable def i4 : SDen := dSet 13 w13
noncomputable def i5 : SDen := (dIfS (dTst (dOp neQ (dCal reprG (dCons (dCal F_is_entry (dCons (dVar 11) (dCons (dVar 8) dNil))) dNil)) (dCal reprG (dCons (dOr (dVar 12) (dVar 13)) dNil)))) (dRet (dC (.bl false))) dNext)
noncomputable def itsSt : SDen := dSeq i0 (dSeq i1 (dSeq i2 (dSeq i3 (dSeq i4 i5))))
noncomputable def itsI : IDen := (iSeq (dTup (dCons (dVar 4) (dCons (dOp qAdd (dC (.int 1)) (dCal F__law_draw (dCons (dVar 1) (dCons (dC (.int 3)) dNil)))) dNil))))
noncomputable def valSt : SDen := dFor itsI (gNm 8) itsSt
noncomputable def valI : IDen := (iSeq (dOp qAdd (dLst (dCons (dVar 5) (dCons (dLc (iSeq (dVar 5)) (gNm 15) dYes (dCal listF (dCons (dVar 15) dNil)) [15]) (dCons (dCal tupF (dCons (dVar 6) dNil)) (dCons (dRev (dVar 6)) (dCons (dTup dNil) dNil)))))) (dLc (iR1 (dC (.int 5))) (gNm 14) dYes (dCal (F__law_near_to 5) (dCons (dVar 1) (dCons (dVar 5) dNil))) [14])))
noncomputable def u0 : SDen := (dSet 4 (dOp qAdd (dC (.int 1)) (dCal F__law_draw (dCons (dVar 1) (dCons (dC (.int 3)) dNil)))))
noncomputable def u1 : SDen := (dSet 5 (dCal F__law_front (dCons (dVar 1) (dCons (dVar 4) dNil))))
noncomputable def u2 : SDen := (dSet 6 (dLc (iR1 (dCal F__law_draw (dCons (dVar 1) (dCons (dC (.int 4)) dNil)))) (gNm 9) dYes (dCal F__law_corner (dCons (dVar 1) (dCons (dVar 4) dNil))) [9]))
noncomputable def turnSt : SDen := dSeq u0 (dSeq u1 (dSeq u2 (dFor valI (gNm 7) valSt)))
noncomputable def l2 : SDen := (dSet 3 (dLc (iR1 (dC (.int 13))) (gNm 9) dYes (dTup (dCons (dVar 9) (dCons (dTup (dCons (dOp qSub (dC (.int 13)) (dVar 9)) dNil)) (dCons (dTup (dCons (dC (.int 0)) dNil)) dNil)))) [9]))
noncomputable def l3 : SDen := (dIfS (dTst (dOp neQ (dLst (dCons (dCal F_is_front (dCons (dVar 3) (dCons (dC (.int 1)) dNil))) (dCons (dCal F_is_front (dCons (dSl slV (dVar 3) (dPart (dC (.int 1))) dNoPart) (dCons (dC (.int 1)) dNil))) (dCons (dCal F_is_entry (dCons (dTup (dCons (dC (.str "won")) (dCons (dVar 3) dNil))) (dCons (dC (.int 1)) dNil))) (dCons (dCalK F_is_entry [0, 1] (dCons (dTup (dCons (dC (.str "won")) (dCons (dSl slV (dVar 3) dNoPart (dPart (dC (.int 12)))) dNil))) (dCons (dC (.int 1)) dNil))) dNil))))) (dLst (dCons (dC (.bl false)) (dCons (dC (.bl true)) (dCons (dC (.bl false)) (dCons (dC (.bl true)) dNil))))))) (dRet (dC (.bl false))) dNext)
noncomputable def l4 : SDen := (dRet (dAnd (dOp qIs (dCal F_is_entry (dCons (dTup (dCons (dC (.str "drawn")) (dCons (dLst dNil) dNil))) (dCons (dC (.int 3)) dNil))) (dC (.bl true))) (dOp eqQ (dLc (iSeq (dTup (dCons (dC .non) (dCons (dC (.int 5)) (dCons (dTup dNil) (dCons (dC (.str "drawn")) (dCons (dC (.dct [] [])) dNil))))))) (gNm 15) (dTst (dCal F_is_entry (dCons (dVar 15) (dCons (dC (.int 1)) dNil)))) (dVar 15) [15]) (dLst dNil))))
theorem law_eq : b_law = dSeq (dSet 1 (dCal F__law_pen (dCons (dVar 0) dNil))) (dSeq (dFor (iR1 (dC (.int 12))) (gNm 2) turnSt) (dSeq l2 (dSeq l3 l4))) := rfl
/-- the slots: the first nine known -/
abbrev En (a b c d e f g h i : Option Vl) (r : List (Option Vl)) : Envr := a :: b :: c :: d :: e :: f :: g :: h :: i :: r
theorem won_pair {d h v : D} (hs : sq d = some [h, v]) (g : gd d = true) (ns : ∀ s, d ≠ .str s) {x y b : Bool} (hx : inD false h (.tup [.str "won", .str "lost"]) = some (.bl x)) (hy : eqX h (.str "drawn") = some y) (hb : b = true → ∃ l, sq v = some l)
    {a0 a1 a2 a3 a4 a5 a6 a8 a9 : Option Vl} {r : List (Option Vl)} (m : Sto) :
    w12 (a0 :: a1 :: a2 :: a3 :: a4 :: a5 :: a6 :: some (.dat v) :: a8 :: a9 :: some (.dat (.bl b)) :: some (.dat d) :: r) m = some (.dat (.bl (x && (b && lp v))), m) ∧
    ∀ z r', w13 (a0 :: a1 :: a2 :: a3 :: a4 :: a5 :: a6 :: some (.dat v) :: a8 :: a9 :: some (.dat (.bl b)) :: some (.dat d) :: z :: r') m = some (.dat (.bl (y && lz v)), m) := by
  have gv := gdAll_mem (sq_gd g hs) v (by simp)
  have i0 := ix_sq (n := 0) hs rfl m
  simp only [Int.natCast_zero] at i0
  have is : isiF [.dat d, .dat (.ty "str")] m = some (.dat (.bl false), m) := by
    rw [isi_str g]
    cases d with
    | str s => exact absurd rfl (ns s)
    | _ => rfl
  have eqd : eqQ (.dat h) (.dat (.str "drawn")) m = some (.dat (.bl y), m) := by
    unfold eqQ
    rw [lift2_s, hy]; rfl
  constructor
  · unfold w12
    cases x with
    | false => simp [is, len_sq hs, i0, dTup, datAll, lim, hx]
    | true =>
      cases b with
      | false => simp [is, len_sq hs, i0, dTup, datAll, lim, hx]
      | true =>
        obtain ⟨l, hl⟩ := hb rfl
        simp [is, len_sq hs, i0, dTup, datAll, lim, hx, len_sq hl, (len_zero hl m).2]
  · intro z r'
    unfold w13
    cases y with
    | false => simp [is, len_sq hs, i0, eqd]
    | true =>
      cases hl : sq v with
      | none =>
        have : lz v = false := by unfold lz; rw [hl]
        simp [is, len_sq hs, i0, eqd, e_llisted gv, isS_none hl, this]
      | some l => simp [is, len_sq hs, i0, eqd, e_llisted gv, isS_some hl, len_sq hl, (len_zero hl m).1]
theorem won_no {d : D} (g : gd d = true) (h : (∃ s, d = .str s) ∨ ∃ l, sq d = some l ∧ l.length ≠ 2) {a0 a1 a2 a3 a4 a5 a6 a7 a8 a9 a10 : Option Vl} {r : List (Option Vl)} (m : Sto) :
    w12 (a0 :: a1 :: a2 :: a3 :: a4 :: a5 :: a6 :: a7 :: a8 :: a9 :: a10 :: some (.dat d) :: r) m = some (.dat (.bl false), m) ∧
    ∀ z r', w13 (a0 :: a1 :: a2 :: a3 :: a4 :: a5 :: a6 :: a7 :: a8 :: a9 :: a10 :: some (.dat d) :: z :: r') m = some (.dat (.bl false), m) := by
  rcases h with ⟨s, rfl⟩ | ⟨l, hs, hl⟩
  · constructor
    · unfold w12
      simp [isi_str g]
    · intro z r'
      unfold w13
      simp [isi_str g]
  · have is : isiF [.dat d, .dat (.ty "str")] m = some (.dat (.bl false), m) := by
      rw [isi_str g]
      cases d with
      | str s => cases hs
      | _ => rfl
    have : ¬ ((l.length : Int) = 2) := by omega
    constructor
    · unfold w12
      simp [is, len_sq hs, this]
    · intro z r'
      unfold w13
      simp [is, len_sq hs, this]
theorem eqX_non (s : Str) (h : PyData.strOk s = true) : eqX .non (.str s) = some false := by
  show eqD _ _ = _
  unfold eqD
  rw [shap_str h]
  rfl
theorem in_non : inD false .non (.tup [.str "won", .str "lost"]) = some (.bl false) := rfl
/-- the seven entries -/
def ents (v : D) : List D := [.tup [.str "won", v], .lst [.str "lost", v], .tup [.str "drawn", v], .tup [.str "won", v, .non], .tup [.str "gone", v], .tup [.non, v], .str "won"]
theorem ent_ok {v e : D} (gv : gd v = true) (he : e ∈ ents v) {its : Int} (h0 : 0 ≤ its) (hm : its ≤ 1000) (m : Sto) {a0 a1 a2 a3 a4 a5 a6 a8 a9 : Option Vl} {r : List (Option Vl)} : gd e = true ∧ ∃ b1 b2 : Bool,
    w12 (a0 :: a1 :: a2 :: a3 :: a4 :: a5 :: a6 :: some (.dat v) :: a8 :: a9 :: some (.dat (.bl (frontOk v its))) :: some (.dat e) :: r) m = some (.dat (.bl b1), m) ∧
    (∀ z r', w13 (a0 :: a1 :: a2 :: a3 :: a4 :: a5 :: a6 :: some (.dat v) :: a8 :: a9 :: some (.dat (.bl (frontOk v its))) :: some (.dat e) :: z :: r') m = some (.dat (.bl b2), m)) ∧
    F_is_entry [.dat e, .dat (.int its)] m = some (.dat (.bl (b1 || b2)), m) := by
  have pair : ∀ {e : D} {s : Str} {x y : Bool}, sq e = some [.str s, v] → (∀ s, e ≠ .str s) → gd e = true → PyData.strOk s = true → (decide (s = "won") || decide (s = "lost")) = x → decide (s = "drawn") = y → (y = true → x = false) → gd e = true ∧ ∃ b1 b2 : Bool,
      w12 (a0 :: a1 :: a2 :: a3 :: a4 :: a5 :: a6 :: some (.dat v) :: a8 :: a9 :: some (.dat (.bl (frontOk v its))) :: some (.dat e) :: r) m = some (.dat (.bl b1), m) ∧
      (∀ z r', w13 (a0 :: a1 :: a2 :: a3 :: a4 :: a5 :: a6 :: some (.dat v) :: a8 :: a9 :: some (.dat (.bl (frontOk v its))) :: some (.dat e) :: z :: r') m = some (.dat (.bl b2), m)) ∧
      F_is_entry [.dat e, .dat (.int its)] m = some (.dat (.bl (b1 || b2)), m) := fun {e s x y} hs ns g ok hx hy hxy => by
    obtain ⟨p1, p2⟩ := won_pair hs g ns (x := x) (y := y) (b := frontOk v its) (by rw [in_wl, hx]) (by rw [eqX_str ok ok_drawn, hy]) front_sq (a0 := a0) (a1 := a1) (a2 := a2) (a3 := a3) (a4 := a4) (a5 := a5) (a6 := a6) (a8 := a8) (a9 := a9) (r := r) m
    refine ⟨g, _, _, p1, fun z r' => (won_pair hs g ns (x := x) (y := y) (b := frontOk v its) (by rw [in_wl, hx]) (by rw [eqX_str ok ok_drawn, hy]) front_sq (r := r) m).2 z r', ?_⟩
    rw [e_entry_str hs ok g h0 hm]
    unfold entOk
    rw [hx]
    by_cases hd : s = "drawn"
    · have : y = true := by rw [← hy, decide_eq_true hd]
      rw [if_pos hd, this, hxy this]
      simp
    · have : y = false := by rw [← hy, decide_eq_false hd]
      rw [if_neg hd, this]
      simp [Bool.and_assoc]
  have g2 : ∀ s : Str, gd (.tup [.str s, v]) = true := fun s => by
    show gdAll _ = true
    exact gdAll_of fun d hd => by
      rcases List.mem_cons.mp hd with rfl | hd
      · rfl
      · have : d = v := by simpa using hd
        rw [this]; exact gv
  have no : ∀ {e : D}, gd e = true → ((∃ s, e = .str s) ∨ ∃ l, sq e = some l ∧ l.length ≠ 2) → gd e = true ∧ ∃ b1 b2 : Bool,
      w12 (a0 :: a1 :: a2 :: a3 :: a4 :: a5 :: a6 :: some (.dat v) :: a8 :: a9 :: some (.dat (.bl (frontOk v its))) :: some (.dat e) :: r) m = some (.dat (.bl b1), m) ∧
      (∀ z r', w13 (a0 :: a1 :: a2 :: a3 :: a4 :: a5 :: a6 :: some (.dat v) :: a8 :: a9 :: some (.dat (.bl (frontOk v its))) :: some (.dat e) :: z :: r') m = some (.dat (.bl b2), m)) ∧
      F_is_entry [.dat e, .dat (.int its)] m = some (.dat (.bl (b1 || b2)), m) := fun {e} g h => by
    refine ⟨g, false, false, (won_no g h m).1, fun z r' => (won_no g h (r := r) m).2 z r', ?_⟩
    refine e_entry_no g (fun l hl => ?_) m
    rcases h with ⟨s, rfl⟩ | ⟨l', h1, h2⟩
    · cases hl
    · rw [hl] at h1
      cases h1
      exact .inl h2
  unfold ents at he
  simp only [List.mem_cons, List.not_mem_nil, or_false] at he
  rcases he with rfl | rfl | rfl | rfl | rfl | rfl | rfl
  · exact pair rfl (fun s h => by cases h) (g2 _) ok_won rfl rfl (fun h => by revert h; decide)
  · exact pair (s := "lost") rfl (fun s h => by cases h) (g2 _) ok_lost rfl rfl (fun h => by revert h; decide)
  · exact pair rfl (fun s h => by cases h) (g2 _) ok_drawn rfl rfl (fun _ => by decide)
  · refine no ?_ (.inr ⟨_, rfl, by simp⟩)
    show gdAll _ = true
    exact gdAll_of fun d hd => by
      simp only [List.mem_cons, List.not_mem_nil, or_false] at hd
      rcases hd with rfl | rfl | rfl
      · rfl
      · exact gv
      · rfl
  · exact pair rfl (fun s h => by cases h) (g2 _) ok_gone rfl rfl (fun h => by revert h; decide)
  · have g : gd (.tup [.non, v]) = true := by
      show gdAll _ = true
      exact gdAll_of fun d hd => by
        rcases List.mem_cons.mp hd with rfl | hd
        · rfl
        · have : d = v := by simpa using hd
          rw [this]; exact gv
    obtain ⟨p1, p2⟩ := won_pair (d := .tup [.non, v]) (h := .non) (v := v) rfl g (fun s h => by cases h) (x := false) (y := false) (b := frontOk v its) in_non (eqX_non _ ok_drawn) front_sq (a0 := a0) (a1 := a1) (a2 := a2) (a3 := a3) (a4 := a4) (a5 := a5) (a6 := a6) (a8 := a8) (a9 := a9) (r := r) m
    refine ⟨g, _, _, p1, fun z r' => (won_pair (d := .tup [.non, v]) (h := .non) (v := v) rfl g (fun s h => by cases h) (x := false) (y := false) (b := frontOk v its) in_non (eqX_non _ ok_drawn) front_sq (r := r) m).2 z r', ?_⟩
    exact e_entry_no g (fun l hl => by cases hl; exact .inr ⟨_, _, rfl, rfl⟩) m
  · exact no rfl (.inl ⟨_, rfl⟩)
end K28
set_option Elab.async false
set_option linter.all false
set_option maxRecDepth 100000
namespace K28
open PySem PySem.Spec PyProof.Rows L2 Dn
theorem iSeq_sqm {f : EDen} {ρ : Envr} {m m' : Sto} {d : D} {l : List D} (h : sq d = some l) (e : f ρ m = some (.dat d, m')) : iSeq f ρ m = some (⟨l, none⟩, m') := by
  unfold iSeq
  rw [e]
  cases d with
  | lst l' => cases h; rfl
  | tup l' => cases h; rfl
  | _ => cases h
/-! ### one value, one many -/
theorem e_its {n : Nat} {m : Sto} (hp : PenAt n m) (hn : n ≤ 90000) {v : D} (gv : gd v = true) {its : Int} (h0 : 0 ≤ its) (hm : its ≤ 1000) (a0 a2 a3 a4 a5 a6 x9 x10 x11 x12 x13 x14 x15 : Option Vl) :
    ∃ y10 y11 y12 y13 m', itsSt [a0, some (.obj 0), a2, a3, a4, a5, a6, some (.dat v), some (.dat (.int its)), x9, x10, x11, x12, x13, x14, x15] m = some (.nx, [a0, some (.obj 0), a2, a3, a4, a5, a6, some (.dat v), some (.dat (.int its)), x9, y10, y11, y12, y13, x14, x15], m') ∧ PenAt (n + 1) m' := by
  obtain ⟨s2, r2, q2⟩ := rep2 (frontOk v its) m
  have f0 : i0 [a0, some (.obj 0), a2, a3, a4, a5, a6, some (.dat v), some (.dat (.int its)), x9, x10, x11, x12, x13, x14, x15] m = some (.nx, [a0, some (.obj 0), a2, a3, a4, a5, a6, some (.dat v), some (.dat (.int its)), x9, some (.dat (.bl (frontOk v its))), x11, x12, x13, x14, x15], m) := by
    unfold i0
    simp [e_lfront gv h0 hm]
  have f1 : i1 [a0, some (.obj 0), a2, a3, a4, a5, a6, some (.dat v), some (.dat (.int its)), x9, some (.dat (.bl (frontOk v its))), x11, x12, x13, x14, x15] m = some (.nx, [a0, some (.obj 0), a2, a3, a4, a5, a6, some (.dat v), some (.dat (.int its)), x9, some (.dat (.bl (frontOk v its))), x11, x12, x13, x14, x15], m) := by
    unfold i1
    simp [e_front gv h0 hm, pick, dLst, datAll, lim, r2, q2]
  obtain ⟨e, m', he, e1, h1⟩ := e_pick hp (by omega) (l := ents v) (by unfold ents; simp) (by unfold ents; simp)
  have f2 : i2 [a0, some (.obj 0), a2, a3, a4, a5, a6, some (.dat v), some (.dat (.int its)), x9, some (.dat (.bl (frontOk v its))), x11, x12, x13, x14, x15] m = some (.nx, [a0, some (.obj 0), a2, a3, a4, a5, a6, some (.dat v), some (.dat (.int its)), x9, some (.dat (.bl (frontOk v its))), some (.dat e), x12, x13, x14, x15], m') := by
    unfold i2
    have q : dLst (dCons (dTup (dCons (dC (.str "won")) (dCons (dVar 7) dNil))) (dCons (dLst (dCons (dC (.str "lost")) (dCons (dVar 7) dNil))) (dCons (dTup (dCons (dC (.str "drawn")) (dCons (dVar 7) dNil))) (dCons (dTup (dCons (dC (.str "won")) (dCons (dVar 7) (dCons (dC .non) dNil)))) (dCons (dTup (dCons (dC (.str "gone")) (dCons (dVar 7) dNil))) (dCons (dTup (dCons (dC .non) (dCons (dVar 7) dNil))) (dCons (dC (.str "won")) dNil))))))) [a0, some (.obj 0), a2, a3, a4, a5, a6, some (.dat v), some (.dat (.int its)), x9, some (.dat (.bl (frontOk v its))), x11, x12, x13, x14, x15] m = some (.dat (.lst (ents v)), m) := by
      unfold ents
      simp [dLst, dTup, datAll, lim]
    simp [q, e1]
  obtain ⟨ge, b1, b2, w1, w2, w3⟩ := ent_ok gv he h0 hm m' (a0 := a0) (a1 := some (.obj 0)) (a2 := a2) (a3 := a3) (a4 := a4) (a5 := a5) (a6 := a6) (a8 := some (.dat (.int its))) (a9 := x9) (r := [x12, x13, x14, x15])
  obtain ⟨s1, r1, q1⟩ := rep1 (b1 || b2) m'
  refine ⟨some (.dat (.bl (frontOk v its))), some (.dat e), some (.dat (.bl b1)), some (.dat (.bl b2)), m', ?_, h1⟩
  unfold itsSt
  rw [seq_nx f0, seq_nx f1, seq_nx f2]
  have f3 : i3 [a0, some (.obj 0), a2, a3, a4, a5, a6, some (.dat v), some (.dat (.int its)), x9, some (.dat (.bl (frontOk v its))), some (.dat e), x12, x13, x14, x15] m' = some (.nx, [a0, some (.obj 0), a2, a3, a4, a5, a6, some (.dat v), some (.dat (.int its)), x9, some (.dat (.bl (frontOk v its))), some (.dat e), some (.dat (.bl b1)), x13, x14, x15], m') := by
    unfold i3
    rw [dSet_s, w1]; rfl
  have f4 : i4 [a0, some (.obj 0), a2, a3, a4, a5, a6, some (.dat v), some (.dat (.int its)), x9, some (.dat (.bl (frontOk v its))), some (.dat e), some (.dat (.bl b1)), x13, x14, x15] m' = some (.nx, [a0, some (.obj 0), a2, a3, a4, a5, a6, some (.dat v), some (.dat (.int its)), x9, some (.dat (.bl (frontOk v its))), some (.dat e), some (.dat (.bl b1)), some (.dat (.bl b2)), x14, x15], m') := by
    unfold i4
    rw [dSet_s, w2]; rfl
  rw [seq_nx f3, seq_nx f4]
  unfold i5
  cases b1
  · rw [Bool.false_or] at w3 r1
    simp [w3, r1, q1]
  · rw [Bool.true_or] at w3 r1
    simp [w3, r1, q1]
/-- the slots behind the value -/
def Tl (a0 a2 a3 a4 a5 a6 a7 : Option Vl) (ρ : Envr) : Prop := ∃ x8 x9 x10 x11 x12 x13 x14 x15, ρ = [a0, some (.obj 0), a2, a3, a4, a5, a6, a7, x8, x9, x10, x11, x12, x13, x14, x15]
theorem e_val {n : Nat} {m : Sto} (hp : PenAt n m) (hn : n ≤ 80000) {v : D} (gv : gd v = true) {many : Int} (h0 : 1 ≤ many) (hm : many ≤ 3) {a0 a2 a3 a5 a6 : Option Vl} {ρ : Envr} (hρ : Tl a0 a2 a3 (some (.dat (.int many))) a5 a6 (some (.dat v)) ρ) :
    ∃ ρ' m', valSt ρ m = some (.nx, ρ', m') ∧ Tl a0 a2 a3 (some (.dat (.int many))) a5 a6 (some (.dat v)) ρ' ∧ PenAt (n + 3) m' := by
  obtain ⟨x8, x9, x10, x11, x12, x13, x14, x15, rfl⟩ := hρ
  obtain ⟨w, ma, e1, w0, w1, h1⟩ := e_draw hp (by omega) (k := 3) (by omega) (by omega)
  have hi : itsI [a0, some (.obj 0), a2, a3, some (.dat (.int many)), a5, a6, some (.dat v), x8, x9, x10, x11, x12, x13, x14, x15] m = some (⟨[.int many, .int (1 + w)], none⟩, ma) := by
    unfold itsI
    refine iSeq_sqm (d := .tup [.int many, .int (1 + w)]) rfl ?_
    simp [dTup, datAll, lim, e1]
  obtain ⟨ρ', m', e2, ⟨hT, h2⟩⟩ := dFor_wp (g := gNm 8) (body := itsSt) (fun i ρ m => Tl a0 a2 a3 (some (.dat (.int many))) a5 a6 (some (.dat v)) ρ ∧ PenAt (n + 1 + i) m) hi ⟨⟨_, _, _, _, _, _, _, _, rfl⟩, h1⟩ (fun d hd i ρ m hi' hJ => by
    obtain ⟨⟨y8, y9, y10, y11, y12, y13, y14, y15, rfl⟩, hp'⟩ := hJ
    have hi2 : i < 2 := hi'
    have hd' : ∃ its : Int, d = .int its ∧ 0 ≤ its ∧ its ≤ 1000 := by
      simp only [List.mem_cons, List.not_mem_nil, or_false] at hd
      rcases hd with rfl | rfl
      · exact ⟨many, rfl, by omega, by omega⟩
      · exact ⟨1 + w, rfl, by omega, by omega⟩
    obtain ⟨its, rfl, i0, i1⟩ := hd'
    obtain ⟨z10, z11, z12, z13, m2, e, h2⟩ := e_its hp' (by omega) gv i0 i1 a0 a2 a3 (some (.dat (.int many))) a5 a6 y9 y10 y11 y12 y13 y14 y15
    exact ⟨_, .nx, _, m2, gNm_s, e, .inl rfl, ⟨_, _, _, _, _, _, _, _, rfl⟩, h2⟩)
  refine ⟨ρ', m', ?_, hT, h2⟩
  unfold valSt
  exact e2
theorem gd_tI (l : List Int) : gd (tI l) = true := by
  show gdAll _ = true
  exact gdAll_of fun d hd => by
    obtain ⟨i, _, rfl⟩ := List.mem_map.mp hd
    rfl
theorem gd_toC (c : Cn) : gd (toC c) = true := by
  show gdAll _ = true
  exact gdAll_of fun d hd => by
    simp only [List.mem_cons, List.not_mem_nil, or_false] at hd
    rcases hd with rfl | rfl | rfl
    · rfl
    · exact gd_tI _
    · exact gd_tI _
theorem gd_toCs {d : D} {cs : List Cn} (h : sq d = some (cs.map toC)) : gd d = true := by
  have : gdAll (cs.map toC) = true := gdAll_of fun d hd => by
    obtain ⟨c, _, rfl⟩ := List.mem_map.mp hd
    exact gd_toC c
  cases d with
  | lst l => cases h; exact this
  | tup l => cases h; exact this
  | _ => cases h
theorem nt_front {k : Nat} (hk : k ≤ 3) {cs : List Cn} (hl : cs.length ≤ 5) (h : ∀ c ∈ cs, goodC k c) : nt 5 (.tup (cs.map toC)) := by
  refine .inr ⟨_, rfl, by rw [List.length_map]; omega, fun e he => ?_⟩
  obtain ⟨c, hc, rfl⟩ := List.mem_map.mp he
  obtain ⟨⟨l1, l2⟩, s1, s2, s3⟩ := h c hc
  refine .inr ⟨_, rfl, by simp, fun e he => ?_⟩
  simp only [List.mem_cons, List.not_mem_nil, or_false] at he
  rcases he with rfl | rfl | rfl
  · exact .inl ⟨_, rfl, s1⟩
  · refine .inr ⟨_, rfl, by rw [List.length_map]; omega, fun e he => ?_⟩
    obtain ⟨i, hi, rfl⟩ := List.mem_map.mp he
    exact .inl ⟨i, rfl, s2 i hi⟩
  · refine .inr ⟨_, rfl, by rw [List.length_map]; omega, fun e he => ?_⟩
    obtain ⟨i, hi, rfl⟩ := List.mem_map.mp he
    exact .inl ⟨i, rfl, s3 i hi⟩
end K28
set_option Elab.async false
set_option linter.all false
set_option maxRecDepth 100000
namespace K28
open PySem PySem.Spec PyProof.Rows L2 Dn
/-! ### one turn -/
def Lo (a0 : Option Vl) (ρ : Envr) : Prop := ∃ x2 x3 x4 x5 x6 x7 x8 x9 x10 x11 x12 x13 x14 x15, ρ = [a0, some (.obj 0), x2, x3, x4, x5, x6, x7, x8, x9, x10, x11, x12, x13, x14, x15]
def asL (e : D) : D := match e with
  | .tup l => .lst l
  | _ => e
theorem e_turn {n : Nat} {m : Sto} (hp : PenAt n m) (hn : n ≤ 60000) {a0 : Option Vl} {ρ : Envr} (hρ : Lo a0 ρ) : ∃ ρ' m', turnSt ρ m = some (.nx, ρ', m') ∧ Lo a0 ρ' ∧ PenAt (n + 200) m' := by
  obtain ⟨x2, x3, x4, x5, x6, x7, x8, x9, x10, x11, x12, x13, x14, x15, rfl⟩ := hρ
  obtain ⟨w, ma, e1, w0, w1, h1⟩ := e_draw hp (by omega) (k := 3) (by omega) (by omega)
  have f0 : u0 [a0, some (.obj 0), x2, x3, x4, x5, x6, x7, x8, x9, x10, x11, x12, x13, x14, x15] m = some (.nx, [a0, some (.obj 0), x2, x3, some (.dat (.int (1 + w))), x5, x6, x7, x8, x9, x10, x11, x12, x13, x14, x15], ma) := by
    unfold u0
    simp [e1]
  generalize hM : 1 + w = many at f0
  have m0 : 1 ≤ many := by omega
  have m1 : many ≤ 3 := by omega
  obtain ⟨fs, mb, e2, lf, gf, h2⟩ := e_dfront h1 (by omega) m0 m1
  have f1 : u1 [a0, some (.obj 0), x2, x3, some (.dat (.int many)), x5, x6, x7, x8, x9, x10, x11, x12, x13, x14, x15] ma = some (.nx, [a0, some (.obj 0), x2, x3, some (.dat (.int many)), some (.dat (.tup (fs.map toC))), x6, x7, x8, x9, x10, x11, x12, x13, x14, x15], mb) := by
    unfold u1
    simp [e2]
  obtain ⟨v, mc, e3, v0, v1, h3⟩ := e_draw h2 (by omega) (k := 4) (by omega) (by omega)
  obtain ⟨ys, md, e4, l4, p4, h4⟩ := dLc_wp (fi := Dn.iR1 (dCal F__law_draw (dCons (dVar 1) (dCons (dC (.int 4)) dNil)))) (g := gNm 9) (f := dCal F__law_corner (dCons (dVar 1) (dCons (dVar 4) dNil))) (vs := [9]) (ρ := [a0, some (.obj 0), x2, x3, some (.dat (.int many)), some (.dat (.tup (fs.map toC))), x6, x7, x8, x9, x10, x11, x12, x13, x14, x15]) (m := mb)
    (fun i m => PenAt (n + 1 + 36 + 1 + 7 * i) m) (fun y => ∃ c, y = toC c ∧ goodC many.toNat c) (iR1_eq (j := v) (m' := mc) (by simp [e3]) (by omega) (by omega)) (by rw [upInts_len]; omega) (by simpa using h3) (fun d hd i m hi hp => by
      rw [upInts_len] at hi
      obtain ⟨c, m2, e, lc, sc, h2⟩ := e_dcorner hp (by omega) m0 m1
      exact ⟨_, toC c, m2, gNm_s, by simp [e], ⟨c, rfl, lc, sc⟩, h2⟩)
  rw [upInts_len] at l4 h4
  obtain ⟨cs, rfl, hcs⟩ := draws_toC p4
  rw [List.length_map] at l4
  have f2 : u2 [a0, some (.obj 0), x2, x3, some (.dat (.int many)), some (.dat (.tup (fs.map toC))), x6, x7, x8, x9, x10, x11, x12, x13, x14, x15] mb = some (.nx, [a0, some (.obj 0), x2, x3, some (.dat (.int many)), some (.dat (.tup (fs.map toC))), some (.dat (.lst (cs.map toC))), x7, x8, x9, x10, x11, x12, x13, x14, x15], md) := by
    unfold u2
    rw [dSet_s, e4]; rfl
  have h4' : PenAt (n + 59) md := h4.mono (by omega)
  -- the values
  have ntf := nt_front (k := many.toNat) (by omega) lf gf
  obtain ⟨zs, me, e5, l5, p5, h5⟩ := dLc_wp (fi := Dn.iR1 (dC (.int 5))) (g := gNm 14) (f := dCal (F__law_near_to 5) (dCons (dVar 1) (dCons (dVar 5) dNil))) (vs := [14]) (ρ := [a0, some (.obj 0), x2, x3, some (.dat (.int many)), some (.dat (.tup (fs.map toC))), some (.dat (.lst (cs.map toC))), x7, x8, x9, x10, x11, x12, x13, x14, x15]) (m := md)
    (fun i m => PenAt (n + 59 + 15 * i) m) (fun y => gd y = true) (iR1_eq (j := 5) (m' := md) rfl (by omega) (by omega)) (by rw [upInts_len]; decide) (by simpa using h4') (fun d hd i m hi hp => by
      rw [upInts_len] at hi
      have hi5 : i < 5 := hi
      obtain ⟨r, m2, e, gr, h2⟩ := e_near 5 ntf hp (by omega)
      exact ⟨_, r, m2, gNm_s, by simp [e], gr, h2⟩)
  rw [upInts_len] at l5 h5
  have l5' : zs.length = 5 := l5
  have h5' : PenAt (n + 134) me := h5.mono (by have : (5 : Int).toNat = 5 := rfl; omega)
  have e6 := dLc_map (fi := iSeq (dVar 5)) (g := gNm 15) (t := dYes) (f := dCal listF (dCons (dVar 15) dNil)) (vs := [15]) (ρ := [a0, some (.obj 0), x2, x3, some (.dat (.int many)), some (.dat (.tup (fs.map toC))), some (.dat (.lst (cs.map toC))), x7, x8, x9, x10, x11, x12, x13, x14, x15]) (m := md) (l := fs.map toC) (fun _ => true) asL (iSeq_sq (d := .tup (fs.map toC)) rfl (by simp)) (by rw [List.length_map]; omega) (fun e he => by
    obtain ⟨c, _, rfl⟩ := List.mem_map.mp he
    exact ⟨_, gNm_s, rfl, fun _ => by simp [listF, seqV, lstV, tupV, toC, asL]⟩)
  rw [filter_yes] at e6
  have hv : valI [a0, some (.obj 0), x2, x3, some (.dat (.int many)), some (.dat (.tup (fs.map toC))), some (.dat (.lst (cs.map toC))), x7, x8, x9, x10, x11, x12, x13, x14, x15] md = some (⟨[.tup (fs.map toC), .lst ((fs.map toC).map asL), .tup (cs.map toC), .lst (cs.map toC).reverse, .tup []] ++ zs, none⟩, me) := by
    unfold valI
    refine iSeq_sqm (d := .lst ([.tup (fs.map toC), .lst ((fs.map toC).map asL), .tup (cs.map toC), .lst (cs.map toC).reverse, .tup []] ++ zs)) rfl ?_
    generalize hA : D.lst ((fs.map toC).map asL) = A at e6 ⊢
    have q1 : tupF [.dat (.lst (cs.map toC))] md = some (.dat (.tup (cs.map toC)), md) := rfl
    have q2 : dRev (dVar 6) [a0, some (.obj 0), x2, x3, some (.dat (.int many)), some (.dat (.tup (fs.map toC))), some (.dat (.lst (cs.map toC))), x7, x8, x9, x10, x11, x12, x13, x14, x15] md = some (.dat (.lst (cs.map toC).reverse), md) := by
      unfold dRev
      rw [dVar_s (x := .dat (.lst (cs.map toC))) rfl]; rfl
    have q3 : dTup dNil [a0, some (.obj 0), x2, x3, some (.dat (.int many)), some (.dat (.tup (fs.map toC))), some (.dat (.lst (cs.map toC))), x7, x8, x9, x10, x11, x12, x13, x14, x15] md = some (.dat (.tup []), md) := by
      simp [dTup, datAll, lim]
    generalize hC : (cs.map toC).reverse = C at q2 ⊢
    generalize hB : cs.map toC = B at q1 q2 q3 e5 e6 ⊢
    generalize hF : fs.map toC = Fs at q1 q2 q3 e5 e6 ⊢
    have q4 : dLst (dCons (dVar 5) (dCons (dLc (iSeq (dVar 5)) (gNm 15) dYes (dCal listF (dCons (dVar 15) dNil)) [15]) (dCons (dCal tupF (dCons (dVar 6) dNil)) (dCons (dRev (dVar 6)) (dCons (dTup dNil) dNil))))) [a0, some (.obj 0), x2, x3, some (.dat (.int many)), some (.dat (.tup Fs)), some (.dat (.lst B)), x7, x8, x9, x10, x11, x12, x13, x14, x15] md = some (.dat (.lst [.tup Fs, A, .tup B, .lst C, .tup []]), md) := by
      unfold dLst
      simp [e6, q1, q2, q3, datAll, lim]
    have q5 : addD (.lst [.tup Fs, A, .tup B, .lst C, .tup []]) (.lst zs) = some (.lst ([.tup Fs, A, .tup B, .lst C, .tup []] ++ zs)) := by
      show (if lim _ then _ else _) = _
      rw [if_pos (by simp [lim]; omega)]
    rw [dOp_s, q4, Option.bind_some, e5, Option.bind_some]
    show lift2 addD (.dat (.lst [.tup Fs, A, .tup B, .lst C, .tup []])) (.dat (.lst zs)) me = _
    rw [lift2_s, q5]; rfl
  have gds : ∀ d ∈ ([.tup (fs.map toC), .lst ((fs.map toC).map asL), .tup (cs.map toC), .lst (cs.map toC).reverse, .tup []] ++ zs : List D), gd d = true := fun d hd => by
    rcases List.mem_append.mp hd with hd | hd
    · simp only [List.mem_cons, List.not_mem_nil, or_false] at hd
      rcases hd with rfl | rfl | rfl | rfl | rfl
      · exact gd_toCs (cs := fs) rfl
      · show gdAll _ = true
        exact gdAll_of fun d hd => by
          obtain ⟨e, he, rfl⟩ := List.mem_map.mp hd
          obtain ⟨c, _, rfl⟩ := List.mem_map.mp he
          have := gd_toC c
          exact this
      · exact gd_toCs (cs := cs) rfl
      · exact gd_toCs (cs := cs.reverse) (by rw [List.map_reverse]; rfl)
      · rfl
    · exact p5 d hd
  obtain ⟨ρ', m', e7, ⟨x7', hT⟩, h7⟩ := dFor_wp (g := gNm 7) (body := valSt) (fun i ρ m => (∃ x7, Tl a0 x2 x3 (some (.dat (.int many))) (some (.dat (.tup (fs.map toC)))) (some (.dat (.lst (cs.map toC)))) x7 ρ) ∧ PenAt (n + 134 + 3 * i) m) hv ⟨⟨_, _, _, _, _, _, _, _, _, rfl⟩, h5'⟩ (fun d hd i ρ m hi hJ => by
    obtain ⟨⟨y7, y8, y9, y10, y11, y12, y13, y14, y15, rfl⟩, hp'⟩ := hJ
    have hi2 : i < 10 := by
      have : ([.tup (fs.map toC), .lst ((fs.map toC).map asL), .tup (cs.map toC), .lst (cs.map toC).reverse, .tup []] ++ zs : List D).length = 10 := by rw [List.length_append, l5']; rfl
      omega
    obtain ⟨ρ2, m2, e, hT2, h2⟩ := e_val hp' (by omega) (gds d hd) m0 m1 (a0 := a0) (a2 := x2) (a3 := x3) (a5 := some (.dat (.tup (fs.map toC)))) (a6 := some (.dat (.lst (cs.map toC)))) (ρ := [a0, some (.obj 0), x2, x3, some (.dat (.int many)), some (.dat (.tup (fs.map toC))), some (.dat (.lst (cs.map toC))), some (.dat d), y8, y9, y10, y11, y12, y13, y14, y15]) ⟨_, _, _, _, _, _, _, _, rfl⟩
    exact ⟨_, .nx, ρ2, m2, gNm_s, e, .inl rfl, ⟨_, hT2⟩, h2⟩)
  have l10 : ([.tup (fs.map toC), .lst ((fs.map toC).map asL), .tup (cs.map toC), .lst (cs.map toC).reverse, .tup []] ++ zs : List D).length = 10 := by rw [List.length_append, l5']; rfl
  refine ⟨ρ', m', ?_, ?_, h7.mono (by rw [l10]; omega)⟩
  · unfold turnSt
    rw [seq_nx f0, seq_nx f1, seq_nx f2]
    exact e7
  · obtain ⟨y8, y9, y10, y11, y12, y13, y14, y15, rfl⟩ := hT
    exact ⟨_, _, _, _, _, _, _, _, _, _, _, _, _, _, rfl⟩
end K28
set_option Elab.async false
set_option linter.all false
set_option maxRecDepth 100000
namespace K28
open PySem PySem.Spec PyProof.Rows L2 Dn
/-! ### the pen at the start -/
theorem cut_ints (ns : List Int) (lo hi : Option Int) : ∃ c : List Int, Dn.cutD (ns.map .int) lo hi = c.map .int ∧ c.length ≤ ns.length := by
  unfold Dn.cutD
  refine ⟨(ns.drop _).take _, by rw [List.map_take, List.map_drop], ?_⟩
  rw [List.length_take, List.length_drop]; omega
theorem e_pen (ns : List Int) (h : ns.length ≤ 63) : ∃ m, F__law_pen [.dat (.frl (ns.map .int))] [] = some (.obj 0, m) ∧ PenAt 0 m := by
  obtain ⟨c, ec, lc⟩ := cut_ints ns none (some 63)
  refine ⟨penS c 0 0, ?_, c, 0, 0, rfl, by omega, by decide, by decide, by decide⟩
  have key := dLc_map (fi := iSeq (dSl slV (dVar 0) dNoPart (dPart (dC (.int 63))))) (g := gNm 1) (t := dYes) (f := dCal intF (dCons (dVar 1) dNil)) (vs := [1]) (ρ := [some (.dat (.frl (ns.map .int))), none]) (m := []) (l := c.map .int) (fun _ => true) (fun e => e) (iSeq_sq (d := .lst (c.map .int)) rfl (by
    rw [← ec]
    unfold dSl dPart dNoPart
    simp [slV, lstV])) (by rw [List.length_map]; omega) (fun e he => by
    obtain ⟨i, _, rfl⟩ := List.mem_map.mp he
    exact ⟨_, gNm_s, rfl, fun _ => by simp⟩)
  rw [filter_yes, List.map_id'] at key
  have hb : b__law_pen [some (.dat (.frl (ns.map .int))), none] [] = some (.rt (.obj 0), [some (.dat (.frl (ns.map .int))), none], penS c 0 0) := by
    unfold b__law_pen
    simp [dLstO, key, datAll, lim, penS]
  show dBodyO 2 b__law_pen [.dat (.frl (ns.map .int))] [] = _
  unfold dBodyO
  show (b__law_pen [some (.dat (.frl (ns.map .int))), none] []).bind _ = _
  rw [hb]; rfl
/-! ### the end -/
def steps : List Cn := (List.range 13).map fun (i : Nat) => ((i : Int), [13 - (i : Int)], [0])
theorem free_all {cs : List Cn} (h : cs.all (free cs) = true) : cs.filter (free cs) = cs := List.filter_eq_self.mpr fun c hc => List.all_eq_true.mp h c hc
theorem srt_self {cs : List Cn} (hp : cs.Pairwise (fun a b => leC a b = true)) (hn : cs.Nodup) : srt cs = cs :=
  List.Perm.eq_of_pairwise (le := fun a b => leC a b = true) (fun a b _ _ h1 h2 => leC_anti h1 h2) (srt_le cs) hp ((List.perm_ext_iff_of_nodup (srt_nodup cs) hn).mpr fun c => srt_mem)
theorem front_of {k : Nat} {cs : List Cn} (he : Even k cs) (hp : cs.Pairwise (fun a b => leC a b = true)) (hn : cs.Nodup) (hf : cs.all (free cs) = true) (hl : cs.length ≤ 12) {many : Int} (hc : (cs.all fun c => cornerOk (toC c) many) = true) : frontOk (.lst (cs.map toC)) many = true := by
  unfold frontOk
  show (decide ((cs.map toC).length ≤ 12) && corn many (cs.map toC) && selfCut ((cs.map toC).map csOf)) = true
  have e1 : (cs.map toC).map csOf = cs := by
    rw [List.map_map]
    conv => rhs; rw [← List.map_id cs]
    exact List.map_congr_left fun c _ => csOf_toC c
  have e2 : cutM (srt cs) = cs := by
    rw [srt_self hp hn, cutM_filter he hp hn, free_all hf]
  rw [e1]
  unfold selfCut corn
  rw [e2, List.length_map, List.all_map, decide_eq_true hl, decide_eq_true rfl, Bool.and_true, Bool.true_and]
  exact hc
theorem front_tail : frontOk (.lst ((steps.drop 1).map toC)) 1 = true := front_of (k := 1) (fun c hc => by revert c; decide +kernel) (by decide +kernel) (by decide +kernel) (by decide +kernel) (by decide) (by decide +kernel)
theorem front_head : frontOk (.lst ((steps.take 12).map toC)) 1 = true := front_of (k := 1) (fun c hc => by revert c; decide +kernel) (by decide +kernel) (by decide +kernel) (by decide +kernel) (by decide) (by decide +kernel)
theorem front_steps : frontOk (.lst (steps.map toC)) 1 = false := rfl
theorem gd_won {v : D} (h : gd v = true) (s : Str) : gd (.tup [.str s, v]) = true := by
  show gdAll _ = true
  exact gdAll_of fun d hd => by
    rcases List.mem_cons.mp hd with rfl | hd
    · rfl
    · have : d = v := by simpa using hd
      rw [this]; exact h
theorem e_l2 {m : Sto} {a0 x2 x3 x4 x5 x6 x7 x8 x9 x10 x11 x12 x13 x14 x15 : Option Vl} : l2 [a0, some (.obj 0), x2, x3, x4, x5, x6, x7, x8, x9, x10, x11, x12, x13, x14, x15] m = some (.nx, [a0, some (.obj 0), x2, some (.dat (.lst (steps.map toC))), x4, x5, x6, x7, x8, x9, x10, x11, x12, x13, x14, x15], m) := by
  have key := dLc_map (fi := Dn.iR1 (dC (.int 13))) (g := gNm 9) (t := dYes) (f := dTup (dCons (dVar 9) (dCons (dTup (dCons (dOp qSub (dC (.int 13)) (dVar 9)) dNil)) (dCons (dTup (dCons (dC (.int 0)) dNil)) dNil)))) (vs := [9]) (ρ := [a0, some (.obj 0), x2, x3, x4, x5, x6, x7, x8, x9, x10, x11, x12, x13, x14, x15]) (m := m) (l := upInts 0 13) (fun _ => true) (fun e => match e with | .int i => toC (i, [13 - i], [0]) | _ => .non) (iR1_eq (j := 13) rfl (by decide) (by decide)) (by rw [upInts_len]; decide) (fun e he => by
    obtain ⟨i, _, rfl⟩ := List.mem_map.mp he
    refine ⟨_, gNm_s, rfl, fun _ => ?_⟩
    simp [dTup, datAll, lim, toC, tI])
  rw [filter_yes] at key
  unfold l2
  rw [dSet_s, key]
  rfl
theorem e_l3 {m : Sto} {a0 x2 x4 x5 x6 x7 x8 x9 x10 x11 x12 x13 x14 x15 : Option Vl} : l3 [a0, some (.obj 0), x2, some (.dat (.lst (steps.map toC))), x4, x5, x6, x7, x8, x9, x10, x11, x12, x13, x14, x15] m = some (.nx, [a0, some (.obj 0), x2, some (.dat (.lst (steps.map toC))), x4, x5, x6, x7, x8, x9, x10, x11, x12, x13, x14, x15], m) := by
  have ge : ∀ cs : List Cn, gd (.lst (cs.map toC)) = true := fun cs => gd_toCs (cs := cs) rfl
  have c1 := e_front (ge steps) (many := 1) (by decide) (by decide) m
  have c2 := e_front (ge (steps.drop 1)) (many := 1) (by decide) (by decide) m
  have c3 := e_entry_str (d := .tup [.str "won", .lst (steps.map toC)]) (v := .lst (steps.map toC)) rfl ok_won (gd_won (ge steps) _) (many := 1) (by decide) (by decide) m
  have c4 := e_entry_str (d := .tup [.str "won", .lst ((steps.take 12).map toC)]) (v := .lst ((steps.take 12).map toC)) rfl ok_won (gd_won (ge (steps.take 12)) _) (many := 1) (by decide) (by decide) m
  rw [front_steps] at c1
  rw [front_tail] at c2
  have en1 : entOk "won" (.lst (steps.map toC)) 1 = false := by
    unfold entOk
    rw [if_neg (by decide), front_steps, Bool.and_false]; rfl
  have en2 : entOk "won" (.lst ((steps.take 12).map toC)) 1 = true := by
    unfold entOk
    rw [if_neg (by decide), front_head]; rfl
  rw [en1] at c3
  rw [en2] at c4
  have s1 : dSl slV (dVar 3) (dPart (dC (.int 1))) dNoPart [a0, some (.obj 0), x2, some (.dat (.lst (steps.map toC))), x4, x5, x6, x7, x8, x9, x10, x11, x12, x13, x14, x15] m = some (.dat (.lst ((steps.drop 1).map toC)), m) := by
    unfold dSl dPart dNoPart
    rw [dVar_s (x := .dat (.lst (steps.map toC))) rfl]
    rfl
  have s2 : dSl slV (dVar 3) dNoPart (dPart (dC (.int 12))) [a0, some (.obj 0), x2, some (.dat (.lst (steps.map toC))), x4, x5, x6, x7, x8, x9, x10, x11, x12, x13, x14, x15] m = some (.dat (.lst ((steps.take 12).map toC)), m) := by
    unfold dSl dPart dNoPart
    rw [dVar_s (x := .dat (.lst (steps.map toC))) rfl]
    rfl
  have q : neQ (.dat (.lst [.bl false, .bl true, .bl false, .bl true])) (.dat (.lst [.bl false, .bl true, .bl false, .bl true])) m = some (.dat (.bl false), m) := by
    unfold neQ
    rw [lift2_s, show eqX (.lst [.bl false, .bl true, .bl false, .bl true]) (.lst [.bl false, .bl true, .bl false, .bl true]) = some true from rfl]; rfl
  unfold l3
  generalize D.lst (steps.map toC) = A at c1 c3 s1 s2 ⊢
  generalize D.lst ((steps.drop 1).map toC) = B at c2 s1
  generalize D.lst ((steps.take 12).map toC) = C at c4 s2
  simp [dLst, dTup, datAll, lim, pick, c1, c2, c3, c4, s1, s2, q]
theorem e_l4 {m : Sto} {ρ : Envr} {a0 a1 x2 x3 x4 x5 x6 x7 x8 x9 x10 x11 x12 x13 x14 x15 : Option Vl} (hρ : ρ = [a0, a1, x2, x3, x4, x5, x6, x7, x8, x9, x10, x11, x12, x13, x14, x15]) : l4 ρ m = some (.rt (.dat (.bl true)), ρ, m) := by
  subst hρ
  have g1 : gd (.tup [.str "drawn", .lst []]) = true := gd_won (v := .lst []) rfl _
  have c1 := e_entry_str (d := .tup [.str "drawn", .lst []]) (v := .lst []) rfl ok_drawn g1 (many := 3) (by decide) (by decide) m
  have en : entOk "drawn" (.lst []) 3 = true := rfl
  rw [en] at c1
  have it : iSeq (dTup (dCons (dC .non) (dCons (dC (.int 5)) (dCons (dTup dNil) (dCons (dC (.str "drawn")) (dCons (dC (.dct [] [])) dNil)))))) [a0, a1, x2, x3, x4, x5, x6, x7, x8, x9, x10, x11, x12, x13, x14, x15] m = some (⟨[.non, .int 5, .tup [], .str "drawn", .dct [] []], none⟩, m) :=
    iSeq_sq (d := .tup [.non, .int 5, .tup [], .str "drawn", .dct [] []]) rfl (by simp [dTup, datAll, lim])
  have key := dLc_map (g := gNm 15) (t := dTst (dCal F_is_entry (dCons (dVar 15) (dCons (dC (.int 1)) dNil)))) (f := dVar 15) (vs := [15]) (fun _ => false) (fun e => e) it (by decide) (fun e he => by
    have hg : gd e = true ∧ ∀ l, sq e = some l → l.length ≠ 2 ∨ ∃ x v, l = [x, v] ∧ (match x with | .str _ => false | _ => true) = true := by
      simp only [List.mem_cons, List.not_mem_nil, or_false] at he
      rcases he with rfl | rfl | rfl | rfl | rfl
      · exact ⟨rfl, fun l h => by cases h⟩
      · exact ⟨rfl, fun l h => by cases h⟩
      · exact ⟨rfl, fun l h => by cases h; exact .inl (by decide)⟩
      · exact ⟨rfl, fun l h => by cases h⟩
      · exact ⟨rfl, fun l h => by cases h⟩
    have := e_entry_no hg.1 hg.2 (many := 1) m
    exact ⟨_, gNm_s, by simp [this], fun h => by cases h⟩)
  have k2 : ([.non, .int 5, .tup [], .str "drawn", .dct [] []] : List D).filter (fun _ => false) = [] := rfl
  rw [k2] at key
  unfold l4
  simp [dTup, datAll, lim, c1, isB, key]
/-! ### the law -/
theorem law_true (ns : List Int) (h : ns.length ≤ 63) : ∃ m', F_law [.dat (.frl (ns.map .int))] [] = some (.dat (.bl true), m') := by
  obtain ⟨m0, e0, h0⟩ := e_pen ns h
  have f0 : dSet 1 (dCal F__law_pen (dCons (dVar 0) dNil)) [some (.dat (.frl (ns.map .int))), none, none, none, none, none, none, none, none, none, none, none, none, none, none, none] [] = some (.nx, [some (.dat (.frl (ns.map .int))), some (.obj 0), none, none, none, none, none, none, none, none, none, none, none, none, none, none], m0) := by
    simp [e0]
  obtain ⟨ρ', m', e1, hL, h1⟩ := dFor_wp (fi := Dn.iR1 (dC (.int 12))) (g := gNm 2) (body := turnSt) (fun i ρ m => Lo (some (.dat (.frl (ns.map .int)))) ρ ∧ PenAt (200 * i) m) (ρ := [some (.dat (.frl (ns.map .int))), some (.obj 0), none, none, none, none, none, none, none, none, none, none, none, none, none, none]) (m := m0) (iR1_eq (j := 12) rfl (by decide) (by decide)) ⟨⟨_, _, _, _, _, _, _, _, _, _, _, _, _, _, rfl⟩, h0⟩ (fun d hd i ρ m hi hJ => by
    rw [upInts_len] at hi
    have hi2 : i < 12 := hi
    obtain ⟨⟨x2, x3, x4, x5, x6, x7, x8, x9, x10, x11, x12, x13, x14, x15, rfl⟩, hp⟩ := hJ
    obtain ⟨ρ2, m2, e, hL2, h2⟩ := e_turn hp (by omega) (a0 := some (.dat (.frl (ns.map .int)))) (ρ := [some (.dat (.frl (ns.map .int))), some (.obj 0), some (.dat d), x3, x4, x5, x6, x7, x8, x9, x10, x11, x12, x13, x14, x15]) ⟨_, _, _, _, _, _, _, _, _, _, _, _, _, _, rfl⟩
    exact ⟨_, .nx, ρ2, m2, gNm_s, e, .inl rfl, hL2, h2⟩)
  obtain ⟨x2, x3, x4, x5, x6, x7, x8, x9, x10, x11, x12, x13, x14, x15, rfl⟩ := hL
  refine ⟨_, body_rtk (n := N_law.length) (ρ' := [some (.dat (.frl (ns.map .int))), some (.obj 0), x2, some (.dat (.lst (steps.map toC))), x4, x5, x6, x7, x8, x9, x10, x11, x12, x13, x14, x15]) (m' := m') ?_⟩
  show b_law [some (.dat (.frl (ns.map .int))), none, none, none, none, none, none, none, none, none, none, none, none, none, none, none] [] = _
  rw [law_eq, seq_nx f0, seq_nx e1, seq_nx e_l2, seq_nx e_l3, e_l4 rfl]
end K28
set_option Elab.async false
set_option linter.all false
set_option maxRecDepth 100000
namespace K28
open PySem PySem.Spec PyProof.Rows L2 Dn
/-! ### the head -/
theorem law_head {l : PySem.W.OpenLaw} {w : World} {K : PySem.W.Frag} {mg : Str → Option Value} {fa : Addr} (hfa : mg "law" = some (.ref fa)) (M : Mo K mg) :
    ∃ fd : FuncData, (∀ (s : Shared) (v : Value), BindsTo s fd ⟨[v], []⟩ [("script", v)]) ∧ ∀ base : Heap, K.In base → base.Ns mainGlobals mg → RunAt l.prog w K mg base callerA 8 fa fd ["script"] (spD K 1 F_law) := by
  obtain ⟨fd, F, b⟩ := def_at M.d_law hfa
  obtain ⟨oc, od, kV, doc, pm, an, cdv, ct, osl, rfl, lk, hcd⟩ := F.ex
  exact ⟨_, fun s v => .of_eq rfl, fun base _ _ => run_law M F⟩
end K28
open PySem PySem.W PyProof.Rows
set_option maxHeartbeats 0 in
theorem PySem.Challenge.cw_purseends_k28_fronts_and_entries_among_a_holds : PySem.Challenge.rw_purseends_k28_fronts_and_entries_among_a.Holds := by
  w_on; o_law; k_head; (case hw => w_witness2)
  k_fill
  refine Dn.walk_law (l := PySem.Challenge.rw_purseends_k28_fronts_and_entries_among_a) (n := 63) (k := 8) (x := "script") (sp := fun K => Dn.spD K 1 K28.F_law) rfl (by decide) rfl ⟨rfl, by decide, by decide⟩ (fun w h Y => PySem.W.kIn_of Y) ?F (fun K H a ns hl hO hS => Dn.law_sp hO hS (K28.law_true ns hl))
  case F =>
    intro w mg fa h KX G hmg
    refine K28.law_head hmg ⟨?d_is_integer, ?d_is_between, ?d_is_listed, ?d_copied, ?d_is_row, ?d_is_corner, ?d_is_at_most, ?d_covers, ?d_cut, ?d_is_front, ?d_is_entry, ?d__law_pen, ?d__law_draw, ?d__law_pick, ?d__law_under, ?d__law_flat, ?d__law_cut, ?d__law_corner, ?d__law_front, ?d__law_is_int, ?d__law_is_listed, ?d__law_is_corner, ?d__law_is_front, ?d__law_near_to, ?d_law, ?n_abs, ?n_all, ?n_any, ?n_bool, ?n_dict, ?n_int, ?n_isinstance, ?n_len, ?n_list, ?n_range, ?n_repr, ?n_set, ?n_sorted, ?n_str, ?n_tuple, ?n_zip, ?v_LOST, ?v_MOST_CORNERS, ?v_MOST_LIMIT, ?v_MOST_PLIES, ?v_WON⟩
    case d_is_integer =>
      refine' Dn.mk_def KX G ?a ?l ?c ?k fun _ _ _ _ _ _ us hl => match us, hl with | [_], _ => rfl
      (case a => k_is); (case l => k_is); (case c => k_is); (case k => k_is)
    case d_is_between =>
      refine' Dn.mk_def KX G ?a ?l ?c ?k fun _ _ _ _ _ _ us hl => match us, hl with | [_, _, _], _ => rfl
      (case a => k_is); (case l => k_is); (case c => k_is); (case k => k_is)
    case d_is_listed =>
      refine' Dn.mk_def KX G ?a ?l ?c ?k fun _ _ _ _ _ _ us hl => match us, hl with | [_], _ => rfl
      (case a => k_is); (case l => k_is); (case c => k_is); (case k => k_is)
    case d_copied =>
      refine' Dn.mk_def KX G ?a ?l ?c ?k fun _ _ _ _ _ _ us hl => match us, hl with | [_], _ => rfl
      (case a => k_is); (case l => k_is); (case c => k_is); (case k => k_is)
    case d_is_row =>
      refine' Dn.mk_def KX G ?a ?l ?c ?k fun _ _ _ _ _ _ us hl => match us, hl with | [_, _, _, _], _ => rfl
      (case a => k_is); (case l => k_is); (case c => k_is); (case k => k_is)
    case d_is_corner =>
      refine' Dn.mk_def KX G ?a ?l ?c ?k fun _ _ _ _ _ _ us hl => match us, hl with | [_, _], _ => rfl
      (case a => k_is); (case l => k_is); (case c => k_is); (case k => k_is)
    case d_is_at_most =>
      refine' Dn.mk_def KX G ?a ?l ?c ?k fun _ _ _ _ _ _ us hl => match us, hl with | [_, _], _ => rfl
      (case a => k_is); (case l => k_is); (case c => k_is); (case k => k_is)
    case d_covers =>
      refine' Dn.mk_def KX G ?a ?l ?c ?k fun _ _ _ _ _ _ us hl => match us, hl with | [_, _], _ => rfl
      (case a => k_is); (case l => k_is); (case c => k_is); (case k => k_is)
    case d_cut =>
      refine' Dn.mk_def KX G ?a ?l ?c ?k fun _ _ _ _ _ _ us hl => match us, hl with | [_], _ => rfl
      (case a => k_is); (case l => k_is); (case c => k_is); (case k => k_is)
    case d_is_front =>
      refine' Dn.mk_def KX G ?a ?l ?c ?k fun _ _ _ _ _ _ us hl => match us, hl with | [_, _], _ => rfl
      (case a => k_is); (case l => k_is); (case c => k_is); (case k => k_is)
    case d_is_entry =>
      refine' Dn.mk_def KX G ?a ?l ?c ?k fun _ _ _ _ _ _ us hl => match us, hl with | [_, _], _ => rfl
      (case a => k_is); (case l => k_is); (case c => k_is); (case k => k_is)
    case d__law_pen =>
      refine' Dn.mk_def KX G ?a ?l ?c ?k fun _ _ _ _ _ _ us hl => match us, hl with | [_], _ => rfl
      (case a => k_is); (case l => k_is); (case c => k_is); (case k => k_is)
    case d__law_draw =>
      refine' Dn.mk_def KX G ?a ?l ?c ?k fun _ _ _ _ _ _ us hl => match us, hl with | [_, _], _ => rfl
      (case a => k_is); (case l => k_is); (case c => k_is); (case k => k_is)
    case d__law_pick =>
      refine' Dn.mk_def KX G ?a ?l ?c ?k fun _ _ _ _ _ _ us hl => match us, hl with | [_, _], _ => rfl
      (case a => k_is); (case l => k_is); (case c => k_is); (case k => k_is)
    case d__law_under =>
      refine' Dn.mk_def KX G ?a ?l ?c ?k fun _ _ _ _ _ _ us hl => match us, hl with | [_, _], _ => rfl
      (case a => k_is); (case l => k_is); (case c => k_is); (case k => k_is)
    case d__law_flat =>
      refine' Dn.mk_def KX G ?a ?l ?c ?k fun _ _ _ _ _ _ us hl => match us, hl with | [_], _ => rfl
      (case a => k_is); (case l => k_is); (case c => k_is); (case k => k_is)
    case d__law_cut =>
      refine' Dn.mk_def KX G ?a ?l ?c ?k fun _ _ _ _ _ _ us hl => match us, hl with | [_], _ => rfl
      (case a => k_is); (case l => k_is); (case c => k_is); (case k => k_is)
    case d__law_corner =>
      refine' Dn.mk_def KX G ?a ?l ?c ?k fun _ _ _ _ _ _ us hl => match us, hl with | [_, _], _ => rfl
      (case a => k_is); (case l => k_is); (case c => k_is); (case k => k_is)
    case d__law_front =>
      refine' Dn.mk_def KX G ?a ?l ?c ?k fun _ _ _ _ _ _ us hl => match us, hl with | [_, _], _ => rfl
      (case a => k_is); (case l => k_is); (case c => k_is); (case k => k_is)
    case d__law_is_int =>
      refine' Dn.mk_def KX G ?a ?l ?c ?k fun _ _ _ _ _ _ us hl => match us, hl with | [_, _, _], _ => rfl
      (case a => k_is); (case l => k_is); (case c => k_is); (case k => k_is)
    case d__law_is_listed =>
      refine' Dn.mk_def KX G ?a ?l ?c ?k fun _ _ _ _ _ _ us hl => match us, hl with | [_], _ => rfl
      (case a => k_is); (case l => k_is); (case c => k_is); (case k => k_is)
    case d__law_is_corner =>
      refine' Dn.mk_def KX G ?a ?l ?c ?k fun _ _ _ _ _ _ us hl => match us, hl with | [_, _], _ => rfl
      (case a => k_is); (case l => k_is); (case c => k_is); (case k => k_is)
    case d__law_is_front =>
      refine' Dn.mk_def KX G ?a ?l ?c ?k fun _ _ _ _ _ _ us hl => match us, hl with | [_, _], _ => rfl
      (case a => k_is); (case l => k_is); (case c => k_is); (case k => k_is)
    case d__law_near_to =>
      refine' Dn.mk_def KX G ?a ?l ?c ?k fun _ _ _ _ _ _ us hl => match us, hl with | [_, _], _ => rfl
      (case a => k_is); (case l => k_is); (case c => k_is); (case k => k_is)
    case d_law =>
      refine' Dn.mk_def KX G ?a ?l ?c ?k fun _ _ _ _ _ _ us hl => match us, hl with | [_], _ => rfl
      (case a => k_is); (case l => k_is); (case c => k_is); (case k => k_is)
    case n_abs => exact Dn.mk_non KX G (by k_is)
    case n_all => exact Dn.mk_non KX G (by k_is)
    case n_any => exact Dn.mk_non KX G (by k_is)
    case n_bool => exact Dn.mk_non KX G (by k_is)
    case n_dict => exact Dn.mk_non KX G (by k_is)
    case n_int => exact Dn.mk_non KX G (by k_is)
    case n_isinstance => exact Dn.mk_non KX G (by k_is)
    case n_len => exact Dn.mk_non KX G (by k_is)
    case n_list => exact Dn.mk_non KX G (by k_is)
    case n_range => exact Dn.mk_non KX G (by k_is)
    case n_repr => exact Dn.mk_non KX G (by k_is)
    case n_set => exact Dn.mk_non KX G (by k_is)
    case n_sorted => exact Dn.mk_non KX G (by k_is)
    case n_str => exact Dn.mk_non KX G (by k_is)
    case n_tuple => exact Dn.mk_non KX G (by k_is)
    case n_zip => exact Dn.mk_non KX G (by k_is)
    case v_LOST =>
      refine' Dn.mk_str KX G ?a
      (case a => k_is)
    case v_MOST_CORNERS =>
      refine' Dn.mk_int KX G ?a
      (case a => k_is)
    case v_MOST_LIMIT =>
      refine' Dn.mk_int KX G ?a
      (case a => k_is)
    case v_MOST_PLIES =>
      refine' Dn.mk_int KX G ?a
      (case a => k_is)
    case v_WON =>
      refine' Dn.mk_str KX G ?a
      (case a => k_is)
