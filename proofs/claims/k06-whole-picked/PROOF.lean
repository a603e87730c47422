import PyProof.Rows.All
import Wide.All
import OpenK.AllK
import Wide.FinOn
import HandS.ForMost
import HandS.Deep
import HandS.SortKw
import HandS.IsInst
import HandS.Flow
import HandS.Wide
import KE.DataEq
import KE.DataCmp
import KE.DataAny
import KE.DataIsa
import KE.DataMinMax
import KE.SortData
import KE.SortKeyHeap
import KE.KDictKeyed
import HandS.Conv
import HandS.ExcValue
import HandS.SetFor
import HandS.Strs
import HandS.TupSets
import PySem.Challenge.RW_tickoff_k06_whole_picked
set_option Elab.async false
set_option linter.all false
set_option maxRecDepth 100000
set_option autoImplicit false
set_option maxHeartbeats 4000000
/-! Dat: defs over plain data. G is the part of the heap that never changes again; H the heap. -/
open PySem PySem.Spec PyProof.Rows L2
namespace Dat

/-! ### heaps -/
structure Stp (G H G' H' : Hp) : Prop where
  hh : Same H H'
  gg : Same G G'
  gh : Same G' H'
  sep : ∀ a, H a ≠ none → G a = none → G' a = none
theorem Stp.refl {G H : Hp} (h : Same G H) : Stp G H G H := ⟨Same.refl _, Same.refl _, h, fun _ _ e => e⟩
theorem Stp.trans {G H G1 H1 G2 H2 : Hp} (a : Stp G H G1 H1) (b : Stp G1 H1 G2 H2) : Stp G H G2 H2 :=
  ⟨a.hh.trans b.hh, a.gg.trans b.gg, b.gh, fun c n e => b.sep c (fun z => n (a.hh.free z)) (a.sep c n e)⟩
theorem same_new {H : Hp} {p : Addr} {o : HO} (n : H p = none) : Same H (upd H p o) := fun b u e => by
  rw [upd_ne (ne_of_none e n)]; exact e
theorem Stp.new {G H : Hp} {p : Addr} {o : HO} (h : Same G H) (n : H p = none) : Stp G H G (upd H p o) :=
  ⟨same_new n, Same.refl _, h.trans (same_new n), fun _ _ e => e⟩
theorem Stp.frz {G H G' H' : Hp} {p : Addr} {o : HO} (s : Stp G H G' H') (n : H p = none) (g : G' p = none) (e : H' p = some o) : Stp G H (upd G' p o) H' := by
  refine ⟨s.hh, fun a u q => ?_, fun a u q => ?_, fun a hn q => ?_⟩
  · rw [upd_ne (ne_of_none (s.gg a u q) g)]; exact s.gg a u q
  · by_cases h : a = p
    · subst h; rw [upd_same] at q; cases q; exact e
    · rw [upd_ne h] at q; exact s.gh a u q
  · have h : a ≠ p := fun z => hn (by rw [z]; exact n)
    rw [upd_ne h]; exact s.sep a hn q
theorem Stp.newF {G H : Hp} {p : Addr} {o : HO} (h : Same G H) (n : H p = none) : Stp G H (upd G p o) (upd H p o) :=
  (Stp.new h n).frz n (h.free n) upd_same
theorem seqT_same {K : PySem.W.Frag} {H H' : Hp} {a : Addr} {xs : List V} (e : Same H H') (h : SqT K H a xs) : SqT K H' a xs := by
  rcases h with (h | ⟨o, h⟩) | h
  · exact .inl (.inl (e _ _ h))
  · exact .inl (.inr ⟨o, e _ _ h⟩)
  · exact .inr h
mutual
theorem dp_mono {K : PySem.W.Frag} {G H : Hp} (s : Same G H) : ∀ (d : PyData) (v : V), Dp K G v d → Dp K H v d
  | .none, _, h => by cases h; exact .non
  | .bool _, _, h => by cases h; exact .bl _
  | .int _, _, h => by cases h; exact .int _
  | .str _, _, h => by cases h; exact .str _
  | .list ds, _, h => by cases h with | lst a b => exact .lst (s.seq a) (dpAll_mono s ds _ b)
  | .tuple ds, _, h => by cases h with | tup a b => exact .tup (seqT_same s a) (dpAll_mono s ds _ b)
  | .dict _, _, h => by cases h
theorem dpAll_mono {K : PySem.W.Frag} {G H : Hp} (s : Same G H) : ∀ (ds : List PyData) (vs : List V), DpAll K G vs ds → DpAll K H vs ds
  | [], _, h => by cases h; exact .nil
  | d :: ds, _, h => by cases h with | cons a b => exact .cons (dp_mono s d _ a) (dpAll_mono s ds _ b)
end
mutual
theorem dp_plain {K : PySem.W.Frag} {G : Hp} : ∀ (d : PyData) (v : V), Dp K G v d → d.plain = true
  | .none, _, _ => rfl
  | .bool _, _, _ => rfl
  | .int _, _, _ => rfl
  | .str _, _, _ => rfl
  | .list ds, _, h => by cases h with | lst a b => simp only [PyData.plain]; exact dpAll_plain ds _ b
  | .tuple ds, _, h => by cases h with | tup a b => simp only [PyData.plain]; exact dpAll_plain ds _ b
  | .dict _, _, h => by cases h
theorem dpAll_plain {K : PySem.W.Frag} {G : Hp} : ∀ (ds : List PyData) (vs : List V), DpAll K G vs ds → PyData.plainAll ds = true
  | [], _, _ => rfl
  | d :: ds, _, h => by cases h with | cons a b => simp only [PyData.plainAll, dp_plain d _ a, dpAll_plain ds _ b, Bool.and_self]
end
end Dat
namespace L2
theorem DpAll.length {K : PySem.W.Frag} {G : Hp} : ∀ {vs : List V} {ds : List PyData}, DpAll K G vs ds → vs.length = ds.length
  | _, _, .nil => rfl
  | _, _, .cons _ t => by simp only [List.length_cons, DpAll.length t]
theorem DpAll.get {K : PySem.W.Frag} {G : Hp} : ∀ {vs : List V} {ds : List PyData} {i : Nat} {d : PyData}, DpAll K G vs ds → ds[i]? = some d → ∃ v, vs[i]? = some v ∧ Dp K G v d
  | _, _, _, _, .nil, e => by simp at e
  | _, _, 0, _, .cons r _, e => by simp at e; subst e; exact ⟨_, rfl, r⟩
  | _, _, i + 1, _, .cons _ t, e => by
    obtain ⟨v, h1, h2⟩ := DpAll.get (i := i) t (by simpa using e)
    exact ⟨v, by simpa using h1, h2⟩
theorem DpAll.getV {K : PySem.W.Frag} {G : Hp} {vs : List V} {ds : List PyData} {i : Nat} {v : V} (h : DpAll K G vs ds) (e : vs[i]? = some v) : ∃ d, ds[i]? = some d ∧ Dp K G v d := by
  have hl : i < ds.length := by rw [← h.length]; exact (List.getElem?_eq_some_iff.mp e).1
  obtain ⟨v', h1, h2⟩ := h.get (List.getElem?_eq_getElem hl)
  rw [e] at h1; cases h1
  exact ⟨_, List.getElem?_eq_getElem hl, h2⟩
theorem DpAll.append {K : PySem.W.Frag} {G : Hp} : ∀ {vs ws : List V} {ds es : List PyData}, DpAll K G vs ds → DpAll K G ws es → DpAll K G (vs ++ ws) (ds ++ es)
  | _, _, _, _, .nil, s => s
  | _, _, _, _, .cons r t, s => .cons r (DpAll.append t s)
theorem DpAll.take {K : PySem.W.Frag} {G : Hp} : ∀ {vs : List V} {ds : List PyData} (n : Nat), DpAll K G vs ds → DpAll K G (vs.take n) (ds.take n)
  | _, _, 0, _ => .nil
  | _, _, _ + 1, .nil => .nil
  | _, _, n + 1, .cons r t => .cons r (DpAll.take n t)
theorem DpAll.drop {K : PySem.W.Frag} {G : Hp} : ∀ {vs : List V} {ds : List PyData} (n : Nat), DpAll K G vs ds → DpAll K G (vs.drop n) (ds.drop n)
  | _, _, 0, r => r
  | _, _, _ + 1, .nil => .nil
  | _, _, n + 1, .cons _ t => DpAll.drop n t
theorem DpAll.eraseIdx {K : PySem.W.Frag} {G : Hp} : ∀ {vs : List V} {ds : List PyData} (i : Nat), DpAll K G vs ds → DpAll K G (vs.eraseIdx i) (ds.eraseIdx i)
  | _, _, _, .nil => .nil
  | _, _, 0, .cons _ t => t
  | _, _, i + 1, .cons r t => .cons r (DpAll.eraseIdx i t)
theorem DpAll.set {K : PySem.W.Frag} {G : Hp} {v : V} {d : PyData} (r : Dp K G v d) : ∀ {vs : List V} {ds : List PyData} (i : Nat), DpAll K G vs ds → DpAll K G (vs.set i v) (ds.set i d)
  | _, _, _, .nil => .nil
  | _, _, 0, .cons _ t => .cons r t
  | _, _, i + 1, .cons q t => .cons q (DpAll.set r i t)
theorem DpAll.rev {K : PySem.W.Frag} {G : Hp} : ∀ {vs : List V} {ds : List PyData}, DpAll K G vs ds → DpAll K G vs.reverse ds.reverse
  | _, _, .nil => .nil
  | _, _, .cons r t => by rw [List.reverse_cons, List.reverse_cons]; exact (DpAll.rev t).append (.cons r .nil)

end L2
namespace Dat
/-! ### what is a def's own -/
/-- kinds: a list; a list of lists of its own; a table (a dict keyed by tuples); an instance of the class at C; a dict keyed by texts, some of whose values are lists of its own -/
inductive Kd where
  | lst | lol | tab (w : World) | obj (C : Addr) | sd (ks : List Str)
def Kd.isL : Kd → Bool
  | .lst => true
  | .lol => true
  | _ => false
/-- lists at the addresses qs -/
inductive Lols (K : PySem.W.Frag) (G H : Hp) : List Addr → List PyData → Prop
  | nil : Lols K G H [] []
  | cons {q : Addr} {qs : List Addr} {xs : List V} {es : List PyData} {ds : List PyData} : H q = some (.lst xs) → DpAll K G xs es → Lols K G H qs ds → Lols K G H (q :: qs) (.list es :: ds)
/-- what a key is -/
def nkB (b : Bool) : Int := if b = true then 1 else 0
mutual
def nk : PyData → Option NestedKey
  | .none => some .none
  | .bool b => some (.num (nkB b))
  | .int i => some (.num i)
  | .str x => some (.text x)
  | .tuple ds => (nkAll ds).map .tup
  | .list _ => none
  | .dict _ => none
def nkAll : List PyData → Option (List NestedKey)
  | [] => some []
  | d :: ds => match nk d, nkAll ds with
    | some k, some ks => some (k :: ks)
    | _, _ => none
end
/-- a dict's entries as they lie in the heap -/
abbrev TEnt := NestedKey × Addr × V
def entN (w : World) (x : NestedKey × Addr × Value) : DictEntry := ⟨x.1.hash w, .ref x.2.1, x.2.2⟩
def tabF (w : World) (d : Addr) (xs : List TEnt) (h : Heap) : Prop := ∃ ys : List (NestedKey × Addr × Value), Paired (fun (x : TEnt) (y : NestedKey × Addr × Value) => x.1 = y.1 ∧ x.2.1 = y.2.1 ∧ RelV x.2.2 y.2.2) xs ys ∧
  ∃ o es ep, h.get? d = some o ∧ o.ExactDict ∧ o.data = .dict es ep ∧ es.toList = ys.map (entN w)
def tabO (w : World) (d : Addr) (xs : List TEnt) : HO := .ext (tabF w d xs)
def Ent (K : PySem.W.Frag) (G : Hp) (x : TEnt) (p : PyData × PyData) : Prop := Dp K G (.ref x.2.1) p.1 ∧ nk p.1 = some x.1 ∧ x.1.depth ≤ 8 ∧ Dp K G x.2.2 p.2
abbrev Ents (K : PySem.W.Frag) (G : Hp) : List TEnt → List (PyData × PyData) → Prop := Paired (Ent K G)
theorem ents_mono {K : PySem.W.Frag} {G H : Hp} (s : Same G H) : ∀ {xs : List TEnt} {kvs : List (PyData × PyData)}, Ents K G xs kvs → Ents K H xs kvs
  | _, _, .nil => .nil
  | _, _, .cons h t => .cons ⟨dp_mono s _ _ h.1, h.2.1, h.2.2.1, dp_mono s _ _ h.2.2.2⟩ (ents_mono s t)
/-- a thing of its own: its value, the addresses that are its own, the data -/
inductive Own (K : PySem.W.Frag) (G H : Hp) : Kd → V → List Addr → PyData → Prop
  | lst {p : Addr} {xs : List V} {ds : List PyData} : H p = some (.lst xs) → DpAll K G xs ds → Own K G H .lst (.ref p) [p] (.list ds)
  | lol {p : Addr} {qs : List Addr} {ds : List PyData} : H p = some (.lst (qs.map V.ref)) → Lols K G H qs ds → (p :: qs).Nodup → Own K G H .lol (.ref p) (p :: qs) (.list ds)
  | tab {w : World} {p : Addr} {xs : List TEnt} {kvs : List (PyData × PyData)} : H p = some (tabO w p xs) → (p == sysModules) = false → (xs.map (·.1)).Nodup → Ents K G xs kvs → Own K G H (.tab w) (.ref p) [p] (.dict kvs)
theorem Lols.frame {K : PySem.W.Frag} {G G' H H' : Hp} (gg : Same G G') : ∀ {qs : List Addr} {ds : List PyData}, (∀ a, a ∈ qs → H' a = H a) → Lols K G H qs ds → Lols K G' H' qs ds
  | _, _, _, .nil => .nil
  | _, _, f, .cons h d t => .cons (by rw [f _ (by simp)]; exact h) (dpAll_mono gg _ _ d) (Lols.frame gg (fun a ha => f a (by simp [ha])) t)
theorem Lols.here {K : PySem.W.Frag} {G H : Hp} : ∀ {qs : List Addr} {ds : List PyData}, Lols K G H qs ds → ∀ a, a ∈ qs → H a ≠ none
  | _, _, .nil, _, ha => nomatch ha
  | _, _, .cons h d t, a, ha => by
    rcases List.mem_cons.mp ha with rfl | ha
    · rw [h]; exact fun z => nomatch z
    · exact Lols.here t a ha
theorem Lols.dp {K : PySem.W.Frag} {G H : Hp} (s : Same G H) : ∀ {qs : List Addr} {ds : List PyData}, Lols K G H qs ds → DpAll K H (qs.map V.ref) ds
  | _, _, .nil => .nil
  | _, _, .cons h d t => .cons (.lst (SqL.of h) (dpAll_mono s _ _ d)) (Lols.dp s t)
theorem Own.frame {K : PySem.W.Frag} {G G' H H' : Hp} {kd : Kd} {v : V} {fp : List Addr} {d : PyData} (o : Own K G H kd v fp d) (gg : Same G G') (f : ∀ a, a ∈ fp → H' a = H a) : Own K G' H' kd v fp d := by
  cases o with
  | lst h da => exact .lst (by rw [f _ (by simp)]; exact h) (dpAll_mono gg _ _ da)
  | lol h l n => exact .lol (by rw [f _ (by simp)]; exact h) (l.frame gg fun a ha => f a (by simp [ha])) n
  | tab h z n e => exact .tab (by rw [f _ (by simp)]; exact h) z n (ents_mono gg e)
theorem Own.here {K : PySem.W.Frag} {G H : Hp} {kd : Kd} {v : V} {fp : List Addr} {d : PyData} (o : Own K G H kd v fp d) : ∀ a, a ∈ fp → H a ≠ none := by
  intro a ha
  cases o with
  | lst h da =>
    have e : a = _ := List.mem_singleton.mp ha
    subst e; rw [h]; exact fun z => nomatch z
  | lol h l n =>
    rcases List.mem_cons.mp ha with rfl | ha
    · rw [h]; exact fun z => nomatch z
    · exact l.here a ha
  | tab h _ _ _ =>
    have e : a = _ := List.mem_singleton.mp ha
    subst e; rw [h]; exact fun z => nomatch z
theorem Own.stp {K : PySem.W.Frag} {G H G' H' : Hp} {kd : Kd} {v : V} {fp : List Addr} {d : PyData} (o : Own K G H kd v fp d) (s : Stp G H G' H') : Own K G' H' kd v fp d :=
  o.frame s.gg fun a ha => by
    cases q : H a with
    | none => exact absurd q (o.here a ha)
    | some u => exact s.hh a u q
theorem Own.dp {K : PySem.W.Frag} {G H : Hp} {kd : Kd} {v : V} {fp : List Addr} {d : PyData} (o : Own K G H kd v fp d) (s : Same G H) (hk : kd.isL = true) : Dp K H v d := by
  cases o with
  | lst h da => exact .lst (SqL.of h) (dpAll_mono s _ _ da)
  | lol h l n => exact .lst (SqL.of h) (l.dp s)
  | tab _ _ _ _ => cases hk
/-- the heap with the cells of fp as they stand in H -/
def addF (G H : Hp) (fp : List Addr) : Hp := fun a => if a ∈ fp then H a else G a
theorem addF_in {G H : Hp} {fp : List Addr} {a : Addr} (h : a ∈ fp) : addF G H fp a = H a := by unfold addF; rw [if_pos h]
theorem addF_out {G H : Hp} {fp : List Addr} {a : Addr} (h : a ∉ fp) : addF G H fp a = G a := by unfold addF; rw [if_neg h]
theorem addF_gg {G H : Hp} {fp : List Addr} (n : ∀ a, a ∈ fp → G a = none) : Same G (addF G H fp) := fun a o e => by
  rw [addF_out (fun h => by rw [n a h] at e; cases e)]; exact e
theorem addF_gh {G H : Hp} {fp : List Addr} (s : Same G H) : Same (addF G H fp) H := fun a o e => by
  by_cases h : a ∈ fp
  · rw [addF_in h] at e; exact e
  · rw [addF_out h] at e; exact s a o e
theorem Own.freeze {K : PySem.W.Frag} {G H : Hp} {kd : Kd} {v : V} {fp : List Addr} {d : PyData} (o : Own K G H kd v fp d) (hk : kd.isL = true) (n : ∀ a, a ∈ fp → G a = none) : Dp K (addF G H fp) v d := by
  have gg := addF_gg (H := H) n
  cases o with
  | lst h da => exact .lst (SqL.of ((addF_in (by simp)).trans h)) (dpAll_mono gg _ _ da)
  | lol h l nd =>
    rename_i p qs ds
    refine .lst (SqL.of ((addF_in (by simp)).trans h)) ?_
    have go : ∀ {rs : List Addr} {es : List PyData}, (∀ a, a ∈ rs → a ∈ p :: qs) → Lols K G H rs es → DpAll K (addF G H (p :: qs)) (rs.map V.ref) es := by
      intro rs es hs l'
      induction l' with
      | nil => exact .nil
      | cons h' d' _ ih => exact .cons (.lst (SqL.of ((addF_in (hs _ (by simp))).trans h')) (dpAll_mono gg _ _ d')) (ih fun a ha => hs a (by simp [ha]))
    exact go (fun a ha => by simp [ha]) l
  | tab _ _ _ _ => cases hk

/-! ### what is read: frozen data, or a list that is the def's own -/
def Bd (K : PySem.W.Frag) (G H : Hp) (v : V) (d : PyData) : Prop :=
  Dp K G v d ∨ ∃ p xs ds, v = .ref p ∧ d = .list ds ∧ H p = some (.lst xs) ∧ G p = none ∧ DpAll K G xs ds
theorem Bd.stp {K : PySem.W.Frag} {G H G' H' : Hp} {v : V} {d : PyData} (b : Bd K G H v d) (s : Stp G H G' H') : Bd K G' H' v d := by
  rcases b with b | ⟨p, xs, ds, e1, e2, e3, e4, e5⟩
  · exact .inl (dp_mono s.gg d v b)
  · exact .inr ⟨p, xs, ds, e1, e2, s.hh _ _ e3, s.sep p (by rw [e3]; exact fun z => nomatch z) e4, dpAll_mono s.gg ds xs e5⟩
theorem Bd.dp {K : PySem.W.Frag} {G H : Hp} {v : V} {d : PyData} (b : Bd K G H v d) (s : Same G H) : Dp K H v d := by
  rcases b with b | ⟨p, xs, ds, rfl, rfl, e3, _, e5⟩
  · exact dp_mono s d v b
  · exact .lst (SqL.of e3) (dpAll_mono s ds xs e5)
theorem Bd.plain {K : PySem.W.Frag} {G H : Hp} {v : V} {d : PyData} (b : Bd K G H v d) (s : Same G H) : d.plain = true := dp_plain d v (b.dp s)
theorem Bd.list {K : PySem.W.Frag} {G H : Hp} {v : V} {ds : List PyData} (b : Bd K G H v (.list ds)) (s : Same G H) : ∃ p xs, v = .ref p ∧ SqL K H p xs ∧ DpAll K G xs ds := by
  rcases b with b | ⟨p, xs, ds', rfl, e2, e3, _, e5⟩
  · cases b with | lst a h => exact ⟨_, _, rfl, s.seq a, h⟩
  · cases e2; exact ⟨p, xs, rfl, SqL.of e3, e5⟩
theorem Bd.tup {K : PySem.W.Frag} {G H : Hp} {v : V} {ds : List PyData} (b : Bd K G H v (.tuple ds)) (s : Same G H) : ∃ p xs, v = .ref p ∧ SqT K H p xs ∧ DpAll K G xs ds := by
  rcases b with b | ⟨p, xs, ds', rfl, e2, e3, _, e5⟩
  · cases b with | tup a h => exact ⟨_, _, rfl, seqT_same s a, h⟩
  · cases e2
theorem Bd.int {K : PySem.W.Frag} {G H : Hp} {v : V} {i : Int} (b : Bd K G H v (.int i)) : v = .int i := by
  rcases b with b | ⟨p, xs, ds', rfl, e2, e3, _, e5⟩
  · cases b; rfl
  · cases e2
theorem Bd.bool {K : PySem.W.Frag} {G H : Hp} {v : V} {i : Bool} (b : Bd K G H v (.bool i)) : v = .bl i := by
  rcases b with b | ⟨p, xs, ds', rfl, e2, e3, _, e5⟩
  · cases b; rfl
  · cases e2
theorem Bd.str {K : PySem.W.Frag} {G H : Hp} {v : V} {i : Str} (b : Bd K G H v (.str i)) : v = .str i := by
  rcases b with b | ⟨p, xs, ds', rfl, e2, e3, _, e5⟩
  · cases b; rfl
  · cases e2
inductive BdAll (K : PySem.W.Frag) (G H : Hp) : List V → List PyData → Prop
  | nil : BdAll K G H [] []
  | cons {v : V} {vs : List V} {d : PyData} {ds : List PyData} : Bd K G H v d → BdAll K G H vs ds → BdAll K G H (v :: vs) (d :: ds)
theorem BdAll.stp {K : PySem.W.Frag} {G H G' H' : Hp} {vs : List V} {ds : List PyData} (b : BdAll K G H vs ds) (s : Stp G H G' H') : BdAll K G' H' vs ds := by
  induction b with
  | nil => exact .nil
  | cons a _ ih => exact .cons (a.stp s) ih
theorem dpAll_bd {K : PySem.W.Frag} {G H : Hp} : ∀ {vs : List V} {ds : List PyData}, DpAll K G vs ds → BdAll K G H vs ds
  | _, _, .nil => .nil
  | _, _, .cons r t => .cons (.inl r) (dpAll_bd t)

/-! ### a def's slots -/
/-- the data in a def's slots (none: nothing there, or nothing known) -/
abbrev Dv := List (Option PyData)
def dvGet (ρ : Dv) (i : Nat) : Option PyData := (ρ[i]?).join
/-- the slots that hold the def's own things -/
abbrev Os := List (Nat × Kd)
def nin (i : Nat) (O : Os) : Bool := O.all fun p => p.1 != i
/-- if i is an own slot, a list's -/
def lsl (i : Nat) (O : Os) : Bool := O.all fun p => p.1 != i || p.2.isL
def dropO (i : Nat) (O : Os) : Os := O.filter fun p => p.1 != i
theorem nin_of {i : Nat} {O : Os} (h : nin i O = true) {kd : Kd} : (i, kd) ∉ O := fun m => by
  have := List.all_eq_true.mp h _ m
  simp at this
theorem lsl_of {i : Nat} {O : Os} (h : lsl i O = true) {kd : Kd} (m : (i, kd) ∈ O) : kd.isL = true := by
  have := List.all_eq_true.mp h _ m
  simpa using this
theorem nin_lsl {i : Nat} {O : Os} (h : nin i O = true) : lsl i O = true := List.all_eq_true.mpr fun p hp => by
  have := List.all_eq_true.mp h p hp
  simp only [Bool.or_eq_true]; exact .inl this
theorem mem_drop {i j : Nat} {kd : Kd} {O : Os} : (j, kd) ∈ dropO i O ↔ (j, kd) ∈ O ∧ j ≠ i := by simp [dropO, List.mem_filter]
theorem nin_drop {i j : Nat} {O : Os} : nin j (dropO i O) = true ↔ nin j O = true ∨ j = i := by
  unfold nin dropO
  simp only [List.all_eq_true, List.mem_filter, and_imp]
  constructor
  · intro h
    by_cases e : j = i
    · exact .inr e
    · refine .inl fun p hp => ?_
      by_cases q : p.1 = i
      · rw [q]; simp; exact fun z => e z.symm
      · exact h p hp (by simpa using q)
  · rintro (h | rfl) p hp q
    · exact h p hp
    · exact q
/-- what is fixed through a def: the heap at its entry but for what is handed in to be changed (H0), its frozen part (G0), the slots of what is handed in to be changed -/
structure Gh where
  H0 : Hp
  G0 : Hp
  op : List (Nat × Kd × V) := []
structure Rep (K : PySem.W.Frag) (Γ : Gh) (G H : Hp) (O : Os) (σ : L2.St) (ρ : Dv) : Prop where
  base : Stp Γ.G0 Γ.H0 G H
  len : σ.length = ρ.length
  fz : ∀ (i : Nat) (d : PyData), nin i O = true → ρ[i]? = some (some d) → ∃ v, σ[i]? = some (some v) ∧ Dp K G v d
  ow : ∃ fp : Nat → List Addr, (∀ (i : Nat) (kd : Kd) (d : PyData), (i, kd) ∈ O → ρ[i]? = some (some d) → ∃ v, σ[i]? = some (some v) ∧ Own K G H kd v (fp i) d ∧ ∀ a, a ∈ fp i → Γ.H0 a = none ∧ G a = none) ∧
    ∀ (i j : Nat) (a : Addr), i ≠ j → a ∈ fp i → a ∉ fp j
  par : ∀ (i : Nat) (kd : Kd) (v : V), (i, kd, v) ∈ Γ.op → (i, kd) ∈ O ∧ kd.isL = false ∧ σ[i]? = some (some v)
  uq : ∀ (i : Nat) (k k' : Kd), (i, k) ∈ O → (i, k') ∈ O → k = k'
section
variable {K : PySem.W.Frag} {Γ : Gh} {G H G' H' : Hp} {O : Os} {σ : L2.St} {ρ : Dv}
theorem Rep.gh (R : Rep K Γ G H O σ ρ) : Same G H := R.base.gh
theorem Rep.stp (R : Rep K Γ G H O σ ρ) (s : Stp G H G' H') : Rep K Γ G' H' O σ ρ := by
  refine ⟨R.base.trans s, R.len, fun i d hi e => ?_, ?_, R.par, R.uq⟩
  · obtain ⟨v, h1, h2⟩ := R.fz i d hi e
    exact ⟨v, h1, dp_mono s.gg d v h2⟩
  · obtain ⟨fp, h1, h2⟩ := R.ow
    refine ⟨fp, fun i kd d hi e => ?_, h2⟩
    obtain ⟨v, e1, o, n⟩ := h1 i kd d hi e
    exact ⟨v, e1, o.stp s, fun a ha => ⟨(n a ha).1, s.sep a (o.here a ha) (n a ha).2⟩⟩
theorem dvGet_some {i : Nat} {d : PyData} (h : dvGet ρ i = some d) : ρ[i]? = some (some d) := by
  unfold dvGet at h
  cases q : ρ[i]? with
  | none => rw [q] at h; cases h
  | some x => rw [q] at h; cases x with
    | none => cases h
    | some y => cases h; rfl
theorem Rep.dp (R : Rep K Γ G H O σ ρ) {i : Nat} {d : PyData} (hi : nin i O = true) (h : dvGet ρ i = some d) : ∃ v, σ[i]? = some (some v) ∧ Dp K G v d := R.fz i d hi (dvGet_some h)
/-- a slot is frozen, or a list of the def's own -/
def flat (i : Nat) (O : Os) : Bool := O.all fun p => p.1 != i || match p.2 with | .lst => true | _ => false
theorem own_or {i : Nat} {O : Os} : nin i O = true ∨ ∃ kd, (i, kd) ∈ O := by
  by_cases h : nin i O = true
  · exact .inl h
  · refine .inr ?_
    unfold nin at h
    rw [List.all_eq_true] at h
    have h' : ∃ p, p ∈ O ∧ ¬ (p.1 != i) = true := Classical.byContradiction fun q => h fun p hp => Classical.byContradiction fun z => q ⟨p, hp, z⟩
    obtain ⟨⟨j, kd⟩, hp, hj⟩ := h'
    have e : j = i := by simpa using hj
    subst e
    exact ⟨kd, hp⟩
theorem Rep.bd (R : Rep K Γ G H O σ ρ) {i : Nat} {d : PyData} (hf : flat i O = true) (h : dvGet ρ i = some d) : ∃ v, σ[i]? = some (some v) ∧ Bd K G H v d := by
  have e := dvGet_some h
  rcases own_or (i := i) (O := O) with hi | ⟨kd, hi⟩
  · obtain ⟨v, h1, h2⟩ := R.fz i d hi e
    exact ⟨v, h1, .inl h2⟩
  · obtain ⟨fp, h1, h2⟩ := R.ow
    obtain ⟨v, e1, o, n⟩ := h1 i kd d hi e
    have hk := List.all_eq_true.mp hf _ hi
    refine ⟨v, e1, .inr ?_⟩
    generalize fp i = f at o n
    cases o with
    | lst hp da => exact ⟨_, _, _, rfl, rfl, hp, (n _ (by simp)).2, da⟩
    | lol _ _ _ => simp at hk
    | tab _ _ _ _ => simp at hk
/-- .. or a list of own lists -/
theorem Rep.bx (R : Rep K Γ G H O σ ρ) {i : Nat} {d : PyData} (hf : lsl i O = true) (h : dvGet ρ i = some d) : ∃ v, σ[i]? = some (some v) ∧ Dp K H v d := by
  have e := dvGet_some h
  rcases own_or (i := i) (O := O) with hi | ⟨kd, hi⟩
  · obtain ⟨v, h1, h2⟩ := R.fz i d hi e
    exact ⟨v, h1, dp_mono R.gh d v h2⟩
  · obtain ⟨fp, h1, h2⟩ := R.ow
    obtain ⟨v, e1, o, n⟩ := h1 i kd d hi e
    exact ⟨v, e1, o.dp R.gh (lsl_of hf hi)⟩
/-- a slot's list is frozen -/
theorem Rep.freeze (R : Rep K Γ G H O σ ρ) (i : Nat) (hl : lsl i O = true) : ∃ G', Same G G' ∧ Rep K Γ G' H (dropO i O) σ ρ := by
  obtain ⟨fp, h1, h2⟩ := R.ow
  have par : ∀ (j : Nat) (kd : Kd) (v : V), (j, kd, v) ∈ Γ.op → (j, kd) ∈ dropO i O ∧ kd.isL = false ∧ σ[j]? = some (some v) := fun j kd v m => by
    obtain ⟨p1, p2, p3⟩ := R.par j kd v m
    refine ⟨mem_drop.mpr ⟨p1, fun z => ?_⟩, p2, p3⟩
    subst z
    rw [lsl_of hl p1] at p2; cases p2
  have uq : ∀ (j : Nat) (k k' : Kd), (j, k) ∈ dropO i O → (j, k') ∈ dropO i O → k = k' := fun j k k' m m' => R.uq j k k' (mem_drop.mp m).1 (mem_drop.mp m').1
  have easy : (∀ kd d, (i, kd) ∈ O → ρ[i]? ≠ some (some d)) → ∃ G', Same G G' ∧ Rep K Γ G' H (dropO i O) σ ρ := fun no => by
    refine ⟨G, Same.refl _, R.base, R.len, fun j d hj e => ?_, ⟨fp, fun j kd d hj e => h1 j kd d (mem_drop.mp hj).1 e, h2⟩, par, uq⟩
    rcases nin_drop.mp hj with hj | rfl
    · exact R.fz j d hj e
    · rcases own_or (i := j) (O := O) with hi | ⟨kd, hi⟩
      · exact R.fz j d hi e
      · exact absurd e (no kd d hi)
  by_cases hd : ∃ kd d, (i, kd) ∈ O ∧ ρ[i]? = some (some d)
  · obtain ⟨kd, d, hi, q⟩ := hd
    obtain ⟨v, e1, o, n⟩ := h1 i kd d hi q
    have gg := addF_gg (H := H) fun a ha => (n a ha).2
    refine ⟨addF G H (fp i), gg, ⟨R.base.hh, R.base.gg.trans gg, addF_gh R.gh, fun a hn z => ?_⟩, R.len, fun j d' hj e => ?_, ⟨fp, fun j kd' d' hj e => ?_, h2⟩, par, uq⟩
    · rw [addF_out (fun y => hn (n a y).1)]
      exact R.base.sep a hn z
    · by_cases hji : j = i
      · subst hji
        rw [q] at e; cases e
        exact ⟨v, e1, o.freeze (lsl_of hl hi) fun a ha => (n a ha).2⟩
      · rcases nin_drop.mp hj with hj | hj
        · obtain ⟨v', f1, f2⟩ := R.fz j d' hj e
          exact ⟨v', f1, dp_mono gg d' v' f2⟩
        · exact absurd hj hji
    · obtain ⟨hj1, hj2⟩ := mem_drop.mp hj
      obtain ⟨v', f1, f2, f3⟩ := h1 j kd' d' hj1 e
      exact ⟨v', f1, f2.frame gg fun _ _ => rfl, fun a ha => ⟨(f3 a ha).1, by rw [addF_out (h2 j i a hj2 ha)]; exact (f3 a ha).2⟩⟩
  · exact easy fun kd d z e => hd ⟨kd, d, z, e⟩
end
end Dat
open PySem PySem.Spec PyProof.Rows L2
namespace Dat

/-! ### readings over data -/
abbrev Fd := Dv → Option PyData
abbrev Fl := Dv → Option (List PyData)
/-- frozen data -/
def RD (K : PySem.W.Frag) (O : Os) (F : Fd) : TE := fun σ H Q => ∃ Γ G ρ d, Rep K Γ G H O σ ρ ∧ F ρ = some d ∧ ∀ v G' H', Stp G H G' H' → Dp K G' v d → Q v H'
/-- data, or a list of the def's own, looked at -/
def RB (K : PySem.W.Frag) (O : Os) (F : Fd) : TE := fun σ H Q => ∃ Γ G ρ d, Rep K Γ G H O σ ρ ∧ F ρ = some d ∧ ∀ v G' H', Stp G H G' H' → Bd K G' H' v d → Q v H'
/-- a new list -/
def RO (K : PySem.W.Frag) (O : Os) (F : Fl) : TE := fun σ H Q => ∃ Γ G ρ ds, Rep K Γ G H O σ ρ ∧ F ρ = some ds ∧
  ∀ p xs G' H', Stp G H G' H' → H p = none → G' p = none → H' p = some (.lst xs) → DpAll K G' xs ds → Q (.ref p) H'
/-- a test -/
def RT (K : PySem.W.Frag) (O : Os) (C : Dv → Option Bool) : TT := fun σ H Q => ∃ Γ G ρ b, Rep K Γ G H O σ ρ ∧ C ρ = some b ∧ ∀ G' H', Stp G H G' H' → Q b H'
/-- arguments: frozen; looked at -/
def RA (K : PySem.W.Frag) (O : Os) (F : Fl) : TA := fun σ H Q => ∃ Γ G ρ ds, Rep K Γ G H O σ ρ ∧ F ρ = some ds ∧ ∀ vs G' H', Stp G H G' H' → DpAll K G' vs ds → Q vs H'
def RAb (K : PySem.W.Frag) (O : Os) (F : Fl) : TA := fun σ H Q => ∃ Γ G ρ ds, Rep K Γ G H O σ ρ ∧ F ρ = some ds ∧ ∀ vs G' H', Stp G H G' H' → BdAll K G' H' vs ds → Q vs H'

section
variable {X : Cx} {e a b : Expr} {pos : Pos} {O : Os} {F F' : Fd} {L : Fl}
theorem pe_imp {t t' : TE} (h : PE X e t) (w : ∀ σ H Q, t' σ H Q → t σ H Q) : PE X e t' := ⟨fun pins s σ H Q I q => h.run pins s σ H Q I (w _ _ _ q)⟩
theorem pt_imp {t t' : TT} (h : PT X e t) (w : ∀ σ H Q, t' σ H Q → t σ H Q) : PT X e t' := ⟨fun pins s σ H Q I q => h.run pins s σ H Q I (w _ _ _ q)⟩
theorem pa_imp {es : List Expr} {t t' : TA} (h : PA X es t) (w : ∀ σ H Q, t' σ H Q → t σ H Q) : PA X es t' := ⟨fun ps pins s σ H Q I q => h.run ps pins s σ H Q I (w _ _ _ q)⟩
/-- frozen data may be looked at -/
theorem d_b (h : PE X e (RD X.K O F)) : PE X e (RB X.K O F) := pe_imp h fun σ H Q ⟨Γ, G, ρ, d, R, ef, q⟩ => ⟨Γ, G, ρ, d, R, ef, fun v G' H' s dv => q v G' H' s (.inl dv)⟩
/-- a new list is frozen -/
def lstF (L : Fl) : Fd := fun ρ => (L ρ).map .list
theorem o_d (h : PE X e (RO X.K O L)) : PE X e (RD X.K O (lstF L)) := pe_imp h fun σ H Q ⟨Γ, G, ρ, d, R, ef, q⟩ => by
  unfold lstF at ef
  cases el : L ρ with
  | none => rw [el] at ef; cases ef
  | some ds =>
    rw [el] at ef
    cases ef
    refine ⟨Γ, G, ρ, ds, R, el, fun p xs G' H' s n g hp dv => q (.ref p) (upd G' p (.lst xs)) H' (s.frz n g hp) (.lst (SqL.of upd_same) (dpAll_mono (fun a u z => ?_) ds xs dv))⟩
    rw [upd_ne (ne_of_none z g)]; exact z
theorem o_b (h : PE X e (RO X.K O L)) : PE X e (RB X.K O (lstF L)) := d_b (o_d h)

/-! ### names, constants -/
def vF (i : Nat) : Fd := fun ρ => dvGet ρ i
theorem b_var (i : Nat) (h : PE X e (tVar i)) (hi : flat i O = true := by rfl) : PE X e (RB X.K O (vF i)) := pe_imp h fun σ H Q ⟨Γ, G, ρ, d, R, ef, q⟩ => by
  obtain ⟨v, h1, h2⟩ := R.bd (i := i) hi ef
  exact ⟨v, h1, q v G H (Stp.refl R.gh) h2⟩
theorem d_var (i : Nat) (h : PE X e (tVar i)) (hi : nin i O = true := by rfl) : PE X e (RD X.K O (vF i)) := pe_imp h fun σ H Q ⟨Γ, G, ρ, d, R, ef, q⟩ => by
  obtain ⟨v, h1, h2⟩ := R.dp hi ef
  exact ⟨v, h1, q v G H (Stp.refl R.gh) h2⟩
def cF (d : PyData) : Fd := fun _ => some d
theorem d_int {i : Int} {j : Nat} : PE X (.Constant (.int i) j pos) (RD X.K O (cF (.int i))) := pe_imp pe_int fun σ H Q ⟨Γ, G, ρ, d, R, ef, q⟩ => by
  cases ef; exact q _ G H (Stp.refl R.gh) (.int i)
theorem d_str {x : Str} {j : Nat} : PE X (.Constant (.str x) j pos) (RD X.K O (cF (.str x))) := pe_imp pe_str fun σ H Q ⟨Γ, G, ρ, d, R, ef, q⟩ => by
  cases ef; exact q _ G H (Stp.refl R.gh) (.str x)
theorem d_bl {x : Bool} {j : Nat} : PE X (.Constant (.bool x) j pos) (RD X.K O (cF (.bool x))) := pe_imp pe_bl fun σ H Q ⟨Γ, G, ρ, d, R, ef, q⟩ => by
  cases ef; exact q _ G H (Stp.refl R.gh) (.bl x)
theorem d_non {j : Nat} : PE X (.Constant .none j pos) (RD X.K O (cF .none)) := pe_imp pe_non fun σ H Q ⟨Γ, G, ρ, d, R, ef, q⟩ => by
  cases ef; exact q _ G H (Stp.refl R.gh) .non

/-! ### two-place operations -/
def f2 (g : PyData → PyData → Option PyData) (F F' : Fd) : Fd := fun ρ => (F ρ).bind fun x => (F' ρ).bind fun y => g x y
theorem f2_some {g : PyData → PyData → Option PyData} {ρ : Dv} {d : PyData} (h : f2 g F F' ρ = some d) : ∃ x y, F ρ = some x ∧ F' ρ = some y ∧ g x y = some d := by
  unfold f2 at h
  cases e1 : F ρ with
  | none => rw [e1] at h; cases h
  | some x =>
    cases e2 : F' ρ with
    | none => rw [e1, e2] at h; cases h
    | some y => rw [e1, e2] at h; exact ⟨x, y, rfl, rfl, h⟩
def r2D (K : PySem.W.Frag) (g : PyData → PyData → Option PyData) : R2 := fun x y H Q => ∃ G dx dy d, Same G H ∧ Bd K G H x dx ∧ Bd K G H y dy ∧ g dx dy = some d ∧ ∀ v G' H', Stp G H G' H' → Dp K G' v d → Q v H'
theorem top_imp {g : PyData → PyData → Option PyData} {σ : L2.St} {H : Hp} {Q : VK} (h : RD X.K O (f2 g F F') σ H Q) : tOp (r2D X.K g) (RB X.K O F) (RB X.K O F') σ H Q := by
  obtain ⟨Γ, G, ρ, d, R, ef, q⟩ := h
  obtain ⟨dx, dy, e1, e2, e3⟩ := f2_some ef
  refine ⟨Γ, G, ρ, dx, R, e1, fun x G1 H1 s1 bx => ⟨Γ, G1, ρ, dy, R.stp s1, e2, fun y G2 H2 s2 y2 => ⟨G2, dx, dy, d, s2.gh, bx.stp s2, y2, e3, fun v G' H' s3 dv => q v G' H' ((s1.trans s2).trans s3) dv⟩⟩⟩
theorem d_op {op : Operator} {g : PyData → PyData → Option PyData} (ho : OpR X (binaryOp op) (r2D X.K g)) (ha : PE X a (RB X.K O F)) (hb : PE X b (RB X.K O F')) : PE X (.BinOp a op b pos) (RD X.K O (f2 g F F')) :=
  pe_imp (pe_op ho ha hb) fun σ H Q h => top_imp h
theorem d_cmp {op : CmpOp} {g : PyData → PyData → Option PyData} (ho : OpR X (compareOp op) (r2D X.K g)) (ha : PE X a (RB X.K O F)) (hb : PE X b (RB X.K O F')) (hm : behindInMarks op b = false) : PE X (.Compare a [op] [b] pos) (RD X.K O (f2 g F F')) :=
  pe_imp (pe_cmpR ho ha hb hm) fun σ H Q h => top_imp h
/-- data that must be a truth value -/
def asB (F : Fd) : Dv → Option Bool := fun ρ => (F ρ).bind fun d => match d with | .bool b => some b | _ => none
theorem asB_some {ρ : Dv} {b : Bool} (h : asB F ρ = some b) : F ρ = some (.bool b) := by
  unfold asB at h
  cases e : F ρ with
  | none => rw [e] at h; cases h
  | some d =>
    rw [e] at h
    cases d with
    | bool c => cases h; rfl
    | none => cases h
    | int _ => cases h
    | str _ => cases h
    | list _ => cases h
    | tuple _ => cases h
    | dict _ => cases h
theorem rd_test {t : TE} {σ : L2.St} {H : Hp} {Q : Bool → Hp → Prop} (w : ∀ Q', RD X.K O F σ H Q' → t σ H Q') (h : RT X.K O (asB F) σ H Q) : t σ H fun x H' => ∃ k, x = .bl k ∧ Q k H' := by
  obtain ⟨Γ, G, ρ, b, R, eb, q⟩ := h
  refine w _ ⟨Γ, G, ρ, .bool b, R, asB_some eb, fun v G' H' s dv => ?_⟩
  cases dv
  exact ⟨b, rfl, q G' H' s⟩
theorem t_cmp {op : CmpOp} {g : PyData → PyData → Option PyData} (ho : OpR X (compareOp op) (r2D X.K g)) (ha : PE X a (RB X.K O F)) (hb : PE X b (RB X.K O F')) (hm : behindInMarks op b = false) : PT X (.Compare a [op] [b] pos) (RT X.K O (asB (f2 g F F'))) :=
  pt_imp (pt_cmpR ho ha hb hm) fun σ H Q h => rd_test (fun Q' h' => top_imp h') h
/-- a bool's value as a test -/
theorem t_val (h : PE X e (RD X.K O F)) (he : ∀ whole, isTrue e X.env whole = (do let v ← whole; standAt e.pos; holding [v] (truthy v)) := by intro _; rfl) : PT X e (RT X.K O (asB F)) :=
  pt_imp (pt_val h he) fun σ H Q h' => rd_test (fun Q' h'' => h'') h'
/-- chains -/
def chF (g g' : PyData → PyData → Option PyData) (F F' F'' : Fd) : Fd := fun ρ => match f2 g F F' ρ with
  | some (.bool true) => f2 g' F' F'' ρ
  | some (.bool false) => some (.bool false)
  | _ => none
theorem chain_imp {c : Expr} {F'' : Fd} {g g' : PyData → PyData → Option PyData} {σ : L2.St} {H : Hp} {Q : VK} (h : RD X.K O (chF g g' F F' F'') σ H Q) : tChain (r2D X.K g) (r2D X.K g') (RB X.K O F) (RB X.K O F') (RB X.K O F'') σ H Q := by
  obtain ⟨Γ, G, ρ, d, R, ef, q⟩ := h
  unfold chF at ef
  have hb : ∃ k, f2 g F F' ρ = some (.bool k) := by
    cases e : f2 g F F' ρ with
    | none => rw [e] at ef; cases ef
    | some z =>
      rw [e] at ef
      cases z with
      | bool k => exact ⟨k, rfl⟩
      | none => cases ef
      | int _ => cases ef
      | str _ => cases ef
      | list _ => cases ef
      | tuple _ => cases ef
      | dict _ => cases ef
  obtain ⟨k, ek⟩ := hb
  rw [ek] at ef
  obtain ⟨dx, dy, e1, e2, e3⟩ := f2_some ek
  refine ⟨Γ, G, ρ, dx, R, e1, fun x G1 H1 s1 bx => ⟨Γ, G1, ρ, dy, R.stp s1, e2, fun y G2 H2 s2 y2 => ⟨G2, dx, dy, _, s2.gh, bx.stp s2, y2, e3, fun v G3 H3 s3 dv => ?_⟩⟩⟩
  cases dv
  refine ⟨k, rfl, ?_⟩
  cases k with
  | false =>
    rw [if_neg Bool.false_ne_true]
    have ed : d = .bool false := (Option.some.inj ef).symm
    subst ed
    exact q _ G3 H3 ((s1.trans s2).trans s3) (.bl false)
  | true =>
    rw [if_pos rfl]
    obtain ⟨dy', dz, f1, f2', f3⟩ := f2_some (show f2 g' F' F'' ρ = some d from ef)
    rw [e2] at f1; cases f1
    refine ⟨Γ, G3, ρ, dz, ((R.stp s1).stp s2).stp s3, f2', fun z G4 H4 s4 bz => ⟨G4, dy, dz, d, s4.gh, (y2.stp s3).stp s4, bz, f3, fun v G' H' s5 dv => q v G' H' ((((s1.trans s2).trans s3).trans s4).trans s5) dv⟩⟩
theorem d_chain {c : Expr} {F'' : Fd} {op op' : CmpOp} {g g' : PyData → PyData → Option PyData} (ho : OpR X (compareOp op) (r2D X.K g)) (ho' : OpR X (compareOp op') (r2D X.K g')) (ha : PE X a (RB X.K O F)) (hb : PE X b (RB X.K O F')) (hc : PE X c (RB X.K O F''))
    (hm : lastMarks [op, op'] [b, c] = false := by with_unfolding_all rfl) : PE X (.Compare a [op, op'] [b, c] pos) (RD X.K O (chF g g' F F' F'')) :=
  pe_imp (pe_chain ho ho' ha hb hc hm) fun σ H Q h => chain_imp (c := c) h
theorem t_chain {c : Expr} {F'' : Fd} {op op' : CmpOp} {g g' : PyData → PyData → Option PyData} (ho : OpR X (compareOp op) (r2D X.K g)) (ho' : OpR X (compareOp op') (r2D X.K g')) (ha : PE X a (RB X.K O F)) (hb : PE X b (RB X.K O F')) (hc : PE X c (RB X.K O F''))
    (hm : lastMarks [op, op'] [b, c] = false := by with_unfolding_all rfl) : PT X (.Compare a [op, op'] [b, c] pos) (RT X.K O (asB (chF g g' F F' F''))) :=
  pt_imp (pt_chain ho ho' ha hb hc hm) fun σ H Q h => rd_test (fun Q' h' => chain_imp (c := c) h') h

/-! ### and, or, not; a if c else b -/
variable {C C' : Dv → Option Bool} {rest : List Expr}
def notT (C : Dv → Option Bool) : Dv → Option Bool := fun ρ => (C ρ).map (!·)
def andT (C C' : Dv → Option Bool) : Dv → Option Bool := fun ρ => match C ρ with | some true => C' ρ | some false => some false | none => none
def orT (C C' : Dv → Option Bool) : Dv → Option Bool := fun ρ => match C ρ with | some true => some true | some false => C' ρ | none => none
theorem t_not (h : PT X a (RT X.K O C)) : PT X (.UnaryOp .Not a pos) (RT X.K O (notT C)) := pt_imp (pt_not h) fun σ H Q ⟨Γ, G, ρ, b, R, eb, q⟩ => by
  unfold notT at eb
  cases e : C ρ with
  | none => rw [e] at eb; cases eb
  | some k => rw [e] at eb; cases eb; exact ⟨Γ, G, ρ, k, R, e, fun G' H' s => q G' H' s⟩
structure WT (X : Cx) (e : Expr) (t : TT) : Prop where
  pw : PW X e t
theorem WT.imp {t t' : TT} (h : WT X e t) (w : ∀ σ H Q, t' σ H Q → t σ H Q) : WT X e t' := ⟨⟨fun wh pins s σ H Q I q => h.pw.run wh pins s σ H Q I (w _ _ _ q)⟩⟩
theorem w_and1 (h : PT X a (RT X.K O C)) : WT X (.BoolOp .And [a] pos) (RT X.K O C) := ⟨pw_and1 h⟩
theorem w_or1 (h : PT X a (RT X.K O C)) : WT X (.BoolOp .Or [a] pos) (RT X.K O C) := ⟨pw_or1 h⟩
theorem w_and (h : PT X a (RT X.K O C)) (h' : WT X (.BoolOp .And (b :: rest) pos) (RT X.K O C')) : WT X (.BoolOp .And (a :: b :: rest) pos) (RT X.K O (andT C C')) :=
  WT.imp ⟨pw_and h h'.pw⟩ fun σ H Q ⟨Γ, G, ρ, k, R, eb, q⟩ => by
    unfold andT at eb
    cases e : C ρ with
    | none => rw [e] at eb; cases eb
    | some c =>
      rw [e] at eb
      cases c with
      | false => cases eb; exact ⟨Γ, G, ρ, false, R, e, fun G' H' s => iteF (q G' H' s)⟩
      | true => exact ⟨Γ, G, ρ, true, R, e, fun G1 H1 s1 => iteT (⟨Γ, G1, ρ, k, R.stp s1, eb, fun G' H' s => q G' H' (s1.trans s)⟩)⟩
theorem w_or (h : PT X a (RT X.K O C)) (h' : WT X (.BoolOp .Or (b :: rest) pos) (RT X.K O C')) : WT X (.BoolOp .Or (a :: b :: rest) pos) (RT X.K O (orT C C')) :=
  WT.imp ⟨pw_or h h'.pw⟩ fun σ H Q ⟨Γ, G, ρ, k, R, eb, q⟩ => by
    unfold orT at eb
    cases e : C ρ with
    | none => rw [e] at eb; cases eb
    | some c =>
      rw [e] at eb
      cases c with
      | true => cases eb; exact ⟨Γ, G, ρ, true, R, e, fun G' H' s => iteT (q G' H' s)⟩
      | false => exact ⟨Γ, G, ρ, false, R, e, fun G1 H1 s1 => iteF (⟨Γ, G1, ρ, k, R.stp s1, eb, fun G' H' s => q G' H' (s1.trans s)⟩)⟩
theorem t_w (h : WT X e (RT X.K O C)) : PT X e (RT X.K O C) := h.pw.pt
/-- .. as values -/
def blF (C : Dv → Option Bool) : Fd := fun ρ => (C ρ).map .bool
theorem blF_some {ρ : Dv} {d : PyData} (h : blF C ρ = some d) : ∃ b, C ρ = some b ∧ d = .bool b := by
  unfold blF at h
  cases e : C ρ with
  | none => rw [e] at h; cases h
  | some b => rw [e] at h; cases h; exact ⟨b, rfl, rfl⟩
theorem d_not (h : PE X a (RD X.K O F)) : PE X (.UnaryOp .Not a pos) (RD X.K O (blF (notT (asB F)))) := pe_imp (pe_not h) fun σ H Q ⟨Γ, G, ρ, d, R, ef, q⟩ => by
  obtain ⟨b, eb, rfl⟩ := blF_some ef
  unfold notT at eb
  cases e : asB F ρ with
  | none => rw [e] at eb; cases eb
  | some k =>
    rw [e] at eb; cases eb
    refine ⟨Γ, G, ρ, .bool k, R, asB_some e, fun v G' H' s dv => ?_⟩
    cases dv
    exact ⟨k, rfl, q _ G' H' s (.bl _)⟩
theorem d_one {op : BoolOp} (h : PE X a (RD X.K O F)) : PE X (.BoolOp op [a] pos) (RD X.K O F) := pe_one h
/-- the first of two operands is a truth value; the last may be anything -/
def andF (F F' : Fd) : Fd := fun ρ => match F ρ with | some (.bool true) => F' ρ | some (.bool false) => some (.bool false) | _ => none
def orF (F F' : Fd) : Fd := fun ρ => match F ρ with | some (.bool true) => some (.bool true) | some (.bool false) => F' ρ | _ => none
theorem boolOf {x : Option PyData} {y : PyData} {f g : Option PyData} (h : (match x with | some (.bool true) => f | some (.bool false) => g | _ => none) = some y) : (x = some (.bool true) ∧ f = some y) ∨ (x = some (.bool false) ∧ g = some y) := by
  cases x with
  | none => cases h
  | some z =>
    cases z with
    | bool k => cases k with
      | true => exact .inl ⟨rfl, h⟩
      | false => exact .inr ⟨rfl, h⟩
    | none => cases h
    | int _ => cases h
    | str _ => cases h
    | list _ => cases h
    | tuple _ => cases h
    | dict _ => cases h
theorem d_and (h : PE X a (RD X.K O F)) (h' : PE X (.BoolOp .And (b :: rest) pos) (RD X.K O F')) : PE X (.BoolOp .And (a :: b :: rest) pos) (RD X.K O (andF F F')) :=
  pe_imp (pe_and h h') fun σ H Q ⟨Γ, G, ρ, d, R, ef, q⟩ => by
    rcases boolOf ef with ⟨e1, e2⟩ | ⟨e1, e2⟩
    · exact ⟨Γ, G, ρ, _, R, e1, fun v G1 H1 s1 dv => by cases dv; exact ⟨true, rfl, iteT (⟨Γ, G1, ρ, d, R.stp s1, e2, fun v G' H' s dv => q v G' H' (s1.trans s) dv⟩)⟩⟩
    · cases e2; exact ⟨Γ, G, ρ, _, R, e1, fun v G1 H1 s1 dv => by cases dv; exact ⟨false, rfl, iteF (q _ G1 H1 s1 (.bl false))⟩⟩
theorem d_or (h : PE X a (RD X.K O F)) (h' : PE X (.BoolOp .Or (b :: rest) pos) (RD X.K O F')) : PE X (.BoolOp .Or (a :: b :: rest) pos) (RD X.K O (orF F F')) :=
  pe_imp (pe_or h h') fun σ H Q ⟨Γ, G, ρ, d, R, ef, q⟩ => by
    rcases boolOf ef with ⟨e1, e2⟩ | ⟨e1, e2⟩
    · cases e2; exact ⟨Γ, G, ρ, _, R, e1, fun v G1 H1 s1 dv => by cases dv; exact ⟨true, rfl, iteT (q _ G1 H1 s1 (.bl true))⟩⟩
    · exact ⟨Γ, G, ρ, _, R, e1, fun v G1 H1 s1 dv => by cases dv; exact ⟨false, rfl, iteF (⟨Γ, G1, ρ, d, R.stp s1, e2, fun v G' H' s dv => q v G' H' (s1.trans s) dv⟩)⟩⟩
def ifF (C : Dv → Option Bool) (F F' : Fd) : Fd := fun ρ => match C ρ with | some true => F ρ | some false => F' ρ | none => none
theorem d_ifExp {c : Expr} (hc : PT X c (RT X.K O C)) (h : PE X a (RD X.K O F)) (h' : PE X b (RD X.K O F')) : PE X (.IfExp c a b pos) (RD X.K O (ifF C F F')) :=
  pe_imp (pe_ifExp hc h h') fun σ H Q ⟨Γ, G, ρ, d, R, ef, q⟩ => by
    unfold ifF at ef
    cases e : C ρ with
    | none => rw [e] at ef; cases ef
    | some k =>
      rw [e] at ef
      cases k with
      | true => exact ⟨Γ, G, ρ, true, R, e, fun G1 H1 s1 => iteT (⟨Γ, G1, ρ, d, R.stp s1, ef, fun v G' H' s dv => q v G' H' (s1.trans s) dv⟩)⟩
      | false => exact ⟨Γ, G, ρ, false, R, e, fun G1 H1 s1 => iteF (⟨Γ, G1, ρ, d, R.stp s1, ef, fun v G' H' s dv => q v G' H' (s1.trans s) dv⟩)⟩

/-! ### argument lists, tuples, lists written -/
variable {es : List Expr}
def nilA : Fl := fun _ => some []
def consA (F : Fd) (L : Fl) : Fl := fun ρ => (F ρ).bind fun d => (L ρ).map fun ds => d :: ds
theorem consA_some {ρ : Dv} {ds : List PyData} (h : consA F L ρ = some ds) : ∃ d r, F ρ = some d ∧ L ρ = some r ∧ ds = d :: r := by
  unfold consA at h
  cases e1 : F ρ with
  | none => rw [e1] at h; cases h
  | some d =>
    cases e2 : L ρ with
    | none => rw [e1, e2] at h; cases h
    | some r => rw [e1, e2] at h; cases h; exact ⟨d, r, rfl, rfl, rfl⟩
theorem a_nil : PA X [] (RA X.K O nilA) := pa_imp pa_nil fun σ H Q ⟨Γ, G, ρ, ds, R, ef, q⟩ => by cases ef; exact q [] G H (Stp.refl R.gh) .nil
theorem a_cons (h : PE X e (RD X.K O F)) (h' : PA X es (RA X.K O L)) (hs : starEach (e :: es) X.env = (false, eval e X.env) :: starEach es X.env := by rfl) : PA X (e :: es) (RA X.K O (consA F L)) :=
  pa_imp (pa_cons h h' hs) fun σ H Q ⟨Γ, G, ρ, ds, R, ef, q⟩ => by
    obtain ⟨d, r, e1, e2, rfl⟩ := consA_some ef
    exact ⟨Γ, G, ρ, d, R, e1, fun v G1 H1 s1 dv => ⟨Γ, G1, ρ, r, R.stp s1, e2, fun vs G' H' s da => q (v :: vs) G' H' (s1.trans s) (.cons (dp_mono s.gg _ _ dv) da)⟩⟩
theorem ab_nil : PA X [] (RAb X.K O nilA) := pa_imp pa_nil fun σ H Q ⟨Γ, G, ρ, ds, R, ef, q⟩ => by cases ef; exact q [] G H (Stp.refl R.gh) .nil
theorem ab_cons (h : PE X e (RB X.K O F)) (h' : PA X es (RAb X.K O L)) (hs : starEach (e :: es) X.env = (false, eval e X.env) :: starEach es X.env := by rfl) : PA X (e :: es) (RAb X.K O (consA F L)) :=
  pa_imp (pa_cons h h' hs) fun σ H Q ⟨Γ, G, ρ, ds, R, ef, q⟩ => by
    obtain ⟨d, r, e1, e2, rfl⟩ := consA_some ef
    exact ⟨Γ, G, ρ, d, R, e1, fun v G1 H1 s1 dv => ⟨Γ, G1, ρ, r, R.stp s1, e2, fun vs G' H' s da => q (v :: vs) G' H' (s1.trans s) (.cons (dv.stp s) da)⟩⟩
/-- a displayed tuple or list has few items -/
def few (L : Fl) : Fl := fun ρ => (L ρ).bind fun ds => if ds.length ≤ 1000 then some ds else none
theorem few_some {ρ : Dv} {ds : List PyData} (h : few L ρ = some ds) : L ρ = some ds ∧ ds.length ≤ 1000 := by
  unfold few at h
  cases e : L ρ with
  | none => rw [e] at h; cases h
  | some r =>
    rw [e] at h
    by_cases hl : r.length ≤ 1000
    · have h' : (if r.length ≤ 1000 then some r else none) = some ds := h
      rw [if_pos hl] at h'; cases h'; exact ⟨rfl, hl⟩
    · have h' : (if r.length ≤ 1000 then some r else none) = some ds := h
      rw [if_neg hl] at h'; cases h'
def tupF (L : Fl) : Fd := fun ρ => (few L ρ).map .tuple
theorem d_tup {k : Nat} (h : PA X es (RA X.K O L)) : PE X (.Tuple es k pos) (RD X.K O (tupF L)) := pe_imp (pe_tup h) fun σ H Q ⟨Γ, G, ρ, d, R, ef, q⟩ => by
  unfold tupF at ef
  cases e : few L ρ with
  | none => rw [e] at ef; cases ef
  | some ds =>
    rw [e] at ef; cases ef
    obtain ⟨e1, hl⟩ := few_some e
    refine ⟨Γ, G, ρ, ds, R, e1, fun vs G1 H1 s1 da => ⟨by rw [da.length]; exact Nat.le_of_lt (small1000 hl), fun p hp => ?_⟩⟩
    have sg := Stp.newF (p := p) (o := .tup vs) s1.gh hp
    exact q _ _ _ (s1.trans sg) (.tup (SqT.of upd_same) (dpAll_mono sg.gg ds vs da))
theorem o_lst (h : PA X es (RA X.K O L)) : PE X (.List es pos) (RO X.K O (few L)) := pe_imp (pe_lst h) fun σ H Q ⟨Γ, G, ρ, ds, R, ef, q⟩ => by
  obtain ⟨e1, hl⟩ := few_some ef
  refine ⟨Γ, G, ρ, ds, R, e1, fun vs G1 H1 s1 da => ⟨by rw [da.length]; exact Nat.le_of_lt (small1000 hl), fun p hp => ?_⟩⟩
  have sg := Stp.new (p := p) (o := .lst vs) s1.gh hp
  exact q p vs G1 _ (s1.trans sg) (s1.hh.free hp) (s1.gh.free hp) upd_same da
end
end Dat
open PySem PySem.Spec PyProof.Rows L2
namespace Dat

/-! ### operators on data -/
def dAdd : PyData → PyData → Option PyData
  | .int i, .int j => some (.int (i + j))
  | .str x, .str y => if x.length + y.length ≤ 16777216 then some (.str (x ++ y)) else none
  | .list xs, .list ys => if xs.length + ys.length ≤ 16777216 then some (.list (xs ++ ys)) else none
  | .tuple xs, .tuple ys => if xs.length + ys.length ≤ 16777216 ∧ xs ≠ [] then some (.tuple (xs ++ ys)) else none
  | _, _ => none
def dSub : PyData → PyData → Option PyData
  | .int i, .int j => some (.int (i - j))
  | _, _ => none
def dMul : PyData → PyData → Option PyData
  | .int i, .int j => if (-(2 ^ 64) < i ∧ i < 2 ^ 64) ∨ (-(2 ^ 64) < j ∧ j < 2 ^ 64) then some (.int (i * j)) else none
  | _, _ => none
def dMod : PyData → PyData → Option PyData
  | .int i, .int j => if 0 < j then some (.int (i % j)) else none
  | _, _ => none
def dDiv : PyData → PyData → Option PyData
  | .int i, .int j => if 0 < j ∧ j < 1073741824 then some (.int (i / j)) else none
  | _, _ => none
def dPow : PyData → PyData → Option PyData
  | .int i, .int j => if 0 ≤ j ∧ j ≤ 1000000 ∧ i.natAbs < 2 ^ 64 then some (.int (i ^ j.toNat)) else none
  | _, _ => none
theorem line_eq : sizeLine = 16777216 := rfl

section
variable {X : Cx}
theorem add_plain {prog : Program} {w : World} {A : Around} {E : Value → Shared → Prop} {s : Shared} {l b : Addr} {vs ws : List Value} {Q : Value → Shared → Prop} (hl : s.heap.IsList l vs.toArray) (hb : s.heap.IsList b ws.toArray)
    (h : Q (.ref s.heap.objs.size) { s with heap := s.heap.push { cls := .type "list", data := .seq (vs ++ ws).toArray } }) (hsz : vs.length + ws.length ≤ sizeLine) : wpAny (model prog w) A (binaryOp .Add (.ref l) (.ref b)) Q E s := by
  obtain ⟨⟨cls, dd, data, sl⟩, ho, hc, n, hd⟩ := id hl
  obtain ⟨⟨cls2, dd2, data2, sl2⟩, ho2, hc2, n2, hd2⟩ := id hb
  simp only at hc hd hc2 hd2
  subst hc hd hc2 hd2
  have e : vs.toArray ++ ws.toArray = (vs ++ ws).toArray := by simp
  refine concat_meets ⟨_, ho, rfl⟩ ⟨_, ho2, rfl⟩ noFill_list_add seq_list_add PySem.F.slot_list_add PySem.F.entry_list_add (PySem.F.args_list_add_2 _ _) (list_addW l b vs.toArray ws.toArray n n2 dd dd2 sl sl2 (by simpa using hsz)) ⟨ho, ho2, ?_⟩
  rw [e]
  exact h
theorem dAdd_some {x y d : PyData} (h : dAdd x y = some d) : (∃ i j, x = .int i ∧ y = .int j ∧ d = .int (i + j)) ∨ (∃ a b, x = .str a ∧ y = .str b ∧ a.length + b.length ≤ 16777216 ∧ d = .str (a ++ b)) ∨
    (∃ xs ys, x = .list xs ∧ y = .list ys ∧ xs.length + ys.length ≤ 16777216 ∧ d = .list (xs ++ ys)) ∨ (∃ xs ys, x = .tuple xs ∧ y = .tuple ys ∧ (xs.length + ys.length ≤ 16777216 ∧ xs ≠ []) ∧ d = .tuple (xs ++ ys)) := by
  cases x <;> cases y <;> simp only [dAdd] at h <;> first | (cases h; done) | skip
  · cases h; exact .inl ⟨_, _, rfl, rfl, rfl⟩
  · split at h
    · cases h; exact .inr (.inl ⟨_, _, rfl, rfl, by assumption, rfl⟩)
    · cases h
  · split at h
    · cases h; exact .inr (.inr (.inl ⟨_, _, rfl, rfl, by assumption, rfl⟩))
    · cases h
  · split at h
    · cases h; exact .inr (.inr (.inr ⟨_, _, rfl, rfl, by assumption, rfl⟩))
    · cases h
theorem op_dAdd : OpR X (binaryOp .Add) (r2D X.K dAdd) := by
  intro pins s σ H x y v u Q I rx ry ⟨G, dx, dy, d, gh, bx, b2, eg, q⟩
  rcases dAdd_some eg with ⟨i, j, rfl, rfl, rfl⟩ | ⟨a, b, rfl, rfl, hl, rfl⟩ | ⟨xs, ys, rfl, rfl, hl, rfl⟩ | ⟨xs, ys, rfl, rfl, ⟨hl, hn⟩, rfl⟩
  · exact op_add pins s σ H x y v u Q I rx ry ⟨i, j, bx.int, b2.int, q _ G H (Stp.refl gh) (.int _)⟩
  · exact op_add_str pins s σ H x y v u Q I rx ry ⟨a, b, bx.str, b2.str, hl, q _ G H (Stp.refl gh) (.str _)⟩
  · obtain ⟨p, vs, rfl, hp, da⟩ := bx.list gh
    obtain ⟨p2, vs2, rfl, hp2, da2⟩ := b2.list gh
    cases rx
    cases ry
    obtain ⟨its, rv, pl, _⟩ := I.list hp
    obtain ⟨its2, rv2, pl2, _⟩ := I.list hp2
    have l1 := rv.length
    have l2 := rv2.length
    have l3 := da.length
    have l4 := da2.length
    have l5 := line_eq
    refine add_plain pl.isList pl2.isList ?_ (by omega)
    have hn : H s.heap.objs.size = none := I.fresh
    have sg := Stp.newF (p := s.heap.objs.size) (o := .lst (vs ++ vs2)) gh hn
    exact ⟨.ref _, _, I.lnew (t' := s.toks) (rv.append rv2) (by rw [List.length_append]; omega), rfl, q _ _ _ sg (.lst (SqL.of upd_same) ((dpAll_mono sg.gg _ _ da).append (dpAll_mono sg.gg _ _ da2)))⟩
  · obtain ⟨p, vs, rfl, hp, da⟩ := bx.tup gh
    obtain ⟨p2, vs2, rfl, hp2, da2⟩ := b2.tup gh
    have l3 := da.length
    have l4 := da2.length
    refine op_catT pins s σ H _ _ v u Q I rx ry ⟨p, p2, vs, vs2, rfl, rfl, hp, hp2, fun z => hn (by subst z; cases da; rfl), by rw [line_eq]; omega, fun z => ?_, fun z p' hp' => ?_⟩
    · subst z
      cases da2
      have dx : Dp X.K G (.ref p) (.tuple xs) := by
        rcases bx with b | ⟨_, _, _, _, e, _⟩
        · exact b
        · cases e
      rw [List.append_nil] at q
      exact q _ G H (Stp.refl gh) dx
    · have sg := Stp.newF (p := p') (o := .tup (vs ++ vs2)) gh hp'
      exact q _ _ _ sg (.tup (SqT.of upd_same) ((dpAll_mono sg.gg _ _ da).append (dpAll_mono sg.gg _ _ da2)))
theorem op_of {f : Value → Value → Sem Value} {g : PyData → PyData → Option PyData} {r : R2} (h : OpR X f r)
    (k : ∀ G x y dx dy d H (Q : VK), Same G H → Bd X.K G H x dx → Bd X.K G H y dy → g dx dy = some d → (∀ v G' H', Stp G H G' H' → Dp X.K G' v d → Q v H') → r x y H Q) : OpR X f (r2D X.K g) :=
  fun pins s σ H x y v u Q I rx ry ⟨G, dx, dy, d, gh, bx, b2, eg, q⟩ => h pins s σ H x y v u Q I rx ry (k G x y dx dy d H Q gh bx b2 eg q)
theorem op_dSub : OpR X (binaryOp .Sub) (r2D X.K dSub) := op_of op_sub fun G x y dx dy d H Q gh bx b2 eg q => by
  cases dx <;> cases dy <;> simp only [dSub] at eg <;> first | (cases eg; done) | skip
  cases eg; exact ⟨_, _, bx.int, b2.int, q _ G H (Stp.refl gh) (.int _)⟩
theorem op_dMul : OpR X (binaryOp .Mult) (r2D X.K dMul) := op_of op_mul fun G x y dx dy d H Q gh bx b2 eg q => by
  cases dx <;> cases dy <;> simp only [dMul] at eg <;> first | (cases eg; done) | skip
  split at eg
  · cases eg; exact ⟨_, _, bx.int, b2.int, by assumption, q _ G H (Stp.refl gh) (.int _)⟩
  · cases eg
theorem op_dMod : OpR X (binaryOp .Mod) (r2D X.K dMod) := op_of op_mod fun G x y dx dy d H Q gh bx b2 eg q => by
  cases dx <;> cases dy <;> simp only [dMod] at eg <;> first | (cases eg; done) | skip
  split at eg
  · cases eg; exact ⟨_, _, bx.int, b2.int, by assumption, q _ G H (Stp.refl gh) (.int _)⟩
  · cases eg
theorem op_dDiv : OpR X (binaryOp .FloorDiv) (r2D X.K dDiv) := op_of op_fdiv fun G x y dx dy d H Q gh bx b2 eg q => by
  cases dx <;> cases dy <;> simp only [dDiv] at eg <;> first | (cases eg; done) | skip
  split at eg
  · cases eg; exact ⟨_, _, bx.int, b2.int, by assumption, q _ G H (Stp.refl gh) (.int _)⟩
  · cases eg
theorem op_dPow : OpR X (binaryOp .Pow) (r2D X.K dPow) := op_of op_pow fun G x y dx dy d H Q gh bx b2 eg q => by
  cases dx <;> cases dy <;> simp only [dPow] at eg <;> first | (cases eg; done) | skip
  split at eg
  · cases eg; exact ⟨_, _, bx.int, b2.int, by assumption, q _ G H (Stp.refl gh) (.int _)⟩
  · cases eg
/-- -x -/
def f1 (g : PyData → Option PyData) (F : Fd) : Fd := fun ρ => (F ρ).bind g
def dNeg : PyData → Option PyData
  | .int i => some (.int (-i))
  | _ => none
theorem d_neg {a : Expr} {pos : Pos} {O : Os} {F : Fd} (h : PE X a (RB X.K O F)) : PE X (.UnaryOp .USub a pos) (RD X.K O (f1 dNeg F)) := pe_imp (pe_un un_neg h) fun σ H Q ⟨Γ, G, ρ, d, R, ef, q⟩ => by
  unfold f1 at ef
  cases e : F ρ with
  | none => rw [e] at ef; cases ef
  | some z =>
    rw [e] at ef
    cases z with
    | int i => cases ef; exact ⟨Γ, G, ρ, _, R, e, fun v G' H' s b => ⟨i, b.int, q _ G' H' s (.int _)⟩⟩
    | none => cases ef
    | bool _ => cases ef
    | str _ => cases ef
    | list _ => cases ef
    | tuple _ => cases ef
    | dict _ => cases ef

/-! ### comparisons: ==, != of any data; < of whole numbers, of alike data; in -/
/-- not deeper than a hundred -/
def shal (d : PyData) : Bool := decide (d.depth ≤ 100)
def dEq (x y : PyData) : Option PyData := if shal x ∨ shal y then some (.bool (PyData.eqv x y)) else none
def dNe (x y : PyData) : Option PyData := if shal x ∨ shal y then some (.bool (!PyData.eqv x y)) else none
theorem shal_min {x y : PyData} {n : Nat} (h : shal x = true ∨ shal y = true) (hu : n + 200 < cLine) : n + min x.depth y.depth < cLine := by
  have h' : x.depth ≤ 100 ∨ y.depth ≤ 100 := by
    rcases h with h | h
    · exact .inl (of_decide_eq_true h)
    · exact .inr (of_decide_eq_true h)
  omega
theorem op_dEq (hu : X.A.units + 200 < cLine) : OpR X (compareOp .Eq) (r2D X.K dEq) := by
  intro pins s σ H x y v u Q I rx ry ⟨G, dx, dy, d, gh, bx, b2, eg, q⟩
  unfold dEq at eg
  split at eg
  · rename_i hs
    cases eg
    obtain ⟨as, r1⟩ := Dp.reads I dx x v (bx.dp gh) rx
    obtain ⟨bs, r2⟩ := Dp.reads I dy y u (b2.dp gh) ry
    exact SeqAt.eq_plain r1 r2 (bx.plain gh) (b2.plain gh) (shal_min hs hu) ⟨.bl _, H, I, rfl, q _ G H (Stp.refl gh) (.bl _)⟩
  · cases eg
theorem op_dNe (hu : X.A.units + 200 < cLine) : OpR X (compareOp .NotEq) (r2D X.K dNe) := by
  intro pins s σ H x y v u Q I rx ry ⟨G, dx, dy, d, gh, bx, b2, eg, q⟩
  unfold dNe at eg
  split at eg
  · rename_i hs
    cases eg
    obtain ⟨as, r1⟩ := Dp.reads I dx x v (bx.dp gh) rx
    obtain ⟨bs, r2⟩ := Dp.reads I dy y u (b2.dp gh) ry
    exact SeqAt.ne_plain r1 r2 (bx.plain gh) (b2.plain gh) (shal_min hs hu) ⟨.bl _, H, I, rfl, q _ G H (Stp.refl gh) (.bl _)⟩
  · cases eg
def dLt : PyData → PyData → Option PyData
  | .int i, .int j => some (.bool (decide (i < j)))
  | .tuple xs, .tuple ys => if PySem.W.alike (.tuple xs) (.tuple ys) ∧ (shal (.tuple xs) ∨ shal (.tuple ys)) then some (.bool (PySem.W.dataLt (.tuple xs) (.tuple ys))) else none
  | _, _ => none
def dLe : PyData → PyData → Option PyData
  | .int i, .int j => some (.bool (decide (i ≤ j)))
  | _, _ => none
def dGt : PyData → PyData → Option PyData
  | .int i, .int j => some (.bool (decide (j < i)))
  | _, _ => none
def dGe : PyData → PyData → Option PyData
  | .int i, .int j => some (.bool (decide (j ≤ i)))
  | _, _ => none
theorem op_dLt (hu : X.A.units + 200 < cLine) : OpR X (compareOp .Lt) (r2D X.K dLt) := by
  intro pins s σ H x y v u Q I rx ry ⟨G, dx, dy, d, gh, bx, b2, eg, q⟩
  have two : (∃ i j, dx = .int i ∧ dy = .int j ∧ d = .bool (decide (i < j))) ∨ (∃ xs ys, dx = .tuple xs ∧ dy = .tuple ys ∧ PySem.W.alike (.tuple xs) (.tuple ys) = true ∧ (shal (.tuple xs) = true ∨ shal (.tuple ys) = true) ∧ d = .bool (PySem.W.dataLt (.tuple xs) (.tuple ys))) := by
    cases dx <;> cases dy <;> simp only [dLt] at eg <;> first | (cases eg; done) | skip
    · cases eg; exact .inl ⟨_, _, rfl, rfl, rfl⟩
    · split at eg
      · rename_i hs
        cases eg; exact .inr ⟨_, _, rfl, rfl, hs.1, hs.2, rfl⟩
      · cases eg
  rcases two with ⟨i, j, rfl, rfl, rfl⟩ | ⟨xs, ys, rfl, rfl, ha, hs, rfl⟩
  · exact op_lt pins s σ H x y v u Q I rx ry ⟨i, j, bx.int, b2.int, q _ G H (Stp.refl gh) (.bl _)⟩
  · obtain ⟨as, r1⟩ := Dp.reads I _ x v (bx.dp gh) rx
    obtain ⟨bs, r2⟩ := Dp.reads I _ y u (b2.dp gh) ry
    exact PySem.W.lt_data r1 r2 ha (fun z => nomatch z) (shal_min hs hu) ⟨.bl _, H, I, rfl, q _ G H (Stp.refl gh) (.bl _)⟩
theorem op_dLe : OpR X (compareOp .LtE) (r2D X.K dLe) := op_of op_le fun G x y dx dy d H Q gh bx b2 eg q => by
  cases dx <;> cases dy <;> simp only [dLe] at eg <;> first | (cases eg; done) | skip
  cases eg; exact ⟨_, _, bx.int, b2.int, q _ G H (Stp.refl gh) (.bl _)⟩
theorem op_dGt : OpR X (compareOp .Gt) (r2D X.K dGt) := op_of op_gt fun G x y dx dy d H Q gh bx b2 eg q => by
  cases dx <;> cases dy <;> simp only [dGt] at eg <;> first | (cases eg; done) | skip
  cases eg; exact ⟨_, _, bx.int, b2.int, q _ G H (Stp.refl gh) (.bl _)⟩
theorem op_dGe : OpR X (compareOp .GtE) (r2D X.K dGe) := op_of op_ge fun G x y dx dy d H Q gh bx b2 eg q => by
  cases dx <;> cases dy <;> simp only [dGe] at eg <;> first | (cases eg; done) | skip
  cases eg; exact ⟨_, _, bx.int, b2.int, q _ G H (Stp.refl gh) (.bl _)⟩
def anyEq (xs : List PyData) (d : PyData) : Bool := xs.any fun y => PyData.eqv y d
def dIn : PyData → PyData → Option PyData
  | d, .list xs => if shal (.list xs) ∨ shal d then some (.bool (anyEq xs d)) else none
  | d, .tuple xs => if shal (.tuple xs) ∨ shal d then some (.bool (anyEq xs d)) else none
  | _, _ => none
def dNotIn : PyData → PyData → Option PyData
  | d, .list xs => if shal (.list xs) ∨ shal d then some (.bool (!anyEq xs d)) else none
  | d, .tuple xs => if shal (.tuple xs) ∨ shal d then some (.bool (!anyEq xs d)) else none
  | _, _ => none
theorem shal_minL {xs : List PyData} {y : PyData} {n : Nat} (h : shal (.list xs) = true ∨ shal y = true) (hu : n + 200 < cLine) : n + 1 + min (PyData.depthAll xs) y.depth < cLine := by
  have h' : PyData.depth (.list xs) ≤ 100 ∨ y.depth ≤ 100 := by
    rcases h with h | h
    · exact .inl (of_decide_eq_true h)
    · exact .inr (of_decide_eq_true h)
  simp only [PyData.depth] at h'
  omega
theorem shal_minT {xs : List PyData} {y : PyData} {n : Nat} (h : shal (.tuple xs) = true ∨ shal y = true) (hu : n + 200 < cLine) : n + 1 + min (PyData.depthAll xs) y.depth < cLine := by
  have h' : PyData.depth (.tuple xs) ≤ 100 ∨ y.depth ≤ 100 := by
    rcases h with h | h
    · exact .inl (of_decide_eq_true h)
    · exact .inr (of_decide_eq_true h)
  simp only [PyData.depth] at h'
  omega
theorem plainL {xs : List PyData} (h : PyData.plain (.list xs) = true) : PyData.plainAll xs = true := by simpa only [PyData.plain] using h
theorem plainT {xs : List PyData} (h : PyData.plain (.tuple xs) = true) : PyData.plainAll xs = true := by simpa only [PyData.plain] using h
theorem op_dIn (hu : X.A.units + 200 < cLine) : OpR X (compareOp .In) (r2D X.K dIn) := by
  intro pins s σ H x y v u Q I rx ry ⟨G, dx, dy, d, gh, bx, b2, eg, q⟩
  obtain ⟨as, r1⟩ := Dp.reads I dx x v (bx.dp gh) rx
  obtain ⟨bs, r2⟩ := Dp.reads I dy y u (b2.dp gh) ry
  cases dy <;> simp only [dIn] at eg <;> first | (cases eg; done) | skip
  · split at eg
    · rename_i hs
      cases eg
      exact SeqAt.in_list_data r2 r1 (plainL (b2.plain gh)) (bx.plain gh) (shal_minL hs hu) ⟨.bl _, H, I, rfl, q _ G H (Stp.refl gh) (.bl _)⟩
    · cases eg
  · split at eg
    · rename_i hs
      cases eg
      exact SeqAt.in_tuple_data r2 r1 (plainT (b2.plain gh)) (bx.plain gh) (shal_minT hs hu) ⟨.bl _, H, I, rfl, q _ G H (Stp.refl gh) (.bl _)⟩
    · cases eg
theorem op_dNotIn (hu : X.A.units + 200 < cLine) : OpR X (compareOp .NotIn) (r2D X.K dNotIn) := by
  intro pins s σ H x y v u Q I rx ry ⟨G, dx, dy, d, gh, bx, b2, eg, q⟩
  obtain ⟨as, r1⟩ := Dp.reads I dx x v (bx.dp gh) rx
  obtain ⟨bs, r2⟩ := Dp.reads I dy y u (b2.dp gh) ry
  cases dy <;> simp only [dNotIn] at eg <;> first | (cases eg; done) | skip
  · split at eg
    · rename_i hs
      cases eg
      exact SeqAt.notIn_list_data r2 r1 (plainL (b2.plain gh)) (bx.plain gh) (shal_minL hs hu) ⟨.bl _, H, I, rfl, q _ G H (Stp.refl gh) (.bl _)⟩
    · cases eg
  · split at eg
    · rename_i hs
      cases eg
      exact SeqAt.notIn_tuple_data r2 r1 (plainT (b2.plain gh)) (bx.plain gh) (shal_minT hs hu) ⟨.bl _, H, I, rfl, q _ G H (Stp.refl gh) (.bl _)⟩
    · cases eg
end
end Dat
open PySem PySem.Spec PyProof.Rows L2
namespace Dat

/-! ### subscripts -/
def dIx : PyData → PyData → Option PyData
  | .list xs, .int i => atI xs i
  | .tuple xs, .int i => atI xs i
  | _, _ => none
theorem atI_dp {K : PySem.W.Frag} {G : Hp} {vs : List V} {ds : List PyData} {i : Int} {d : PyData} (h : DpAll K G vs ds) (e : atI ds i = some d) : ∃ v, atI vs i = some v ∧ Dp K G v d := by
  unfold atI at e ⊢
  rw [h.length]
  cases q : ixN ds.length i with
  | none => rw [q] at e; cases e
  | some j =>
    rw [q] at e
    exact h.get (i := j) e
section
variable {X : Cx} {a b : Expr} {pos : Pos} {O : Os} {F F' : Fd} {L : Fl}
theorem ix_dIx : IxR X (r2D X.K dIx) := by
  intro value slice pins s σ H x y v u Q I rx ry ⟨G, dx, dy, d, gh, bx, b2, eg, q⟩ hs
  cases dx <;> cases dy <;> simp only [dIx] at eg <;> first | (cases eg; done) | skip
  · obtain ⟨p, vs, rfl, hp, da⟩ := bx.list gh
    obtain ⟨w, ew, dw⟩ := atI_dp da eg
    exact ix_list value slice pins s σ H _ y v u Q I rx ry ⟨p, vs, _, w, rfl, b2.int, hp, ew, q w G H (Stp.refl gh) dw⟩ hs
  · obtain ⟨p, vs, rfl, hp, da⟩ := bx.tup gh
    obtain ⟨w, ew, dw⟩ := atI_dp da eg
    exact ix_tup value slice pins s σ H _ y v u Q I rx ry ⟨p, vs, _, w, rfl, b2.int, hp, ew, q w G H (Stp.refl gh) dw⟩ hs
theorem d_ix (ha : PE X a (RB X.K O F)) (hb : PE X b (RB X.K O F')) (hs : PlainIx b) : PE X (.Subscript a b pos) (RD X.K O (f2 dIx F F')) :=
  pe_imp (pe_ix ix_dIx ha hb hs) fun σ H Q h => top_imp h

/-! ### slices -/
def RP (K : PySem.W.Frag) (O : Os) (P : Dv → Option (Option Int)) : TO := fun σ H Q => ∃ Γ G ρ o, Rep K Γ G H O σ ρ ∧ P ρ = some o ∧ ∀ G' H', Stp G H G' H' → Q o H'
def noP : Dv → Option (Option Int) := fun _ => some none
def asI (F : Fd) : Dv → Option Int := fun ρ => (F ρ).bind fun d => match d with | .int i => some i | _ => none
theorem asI_some {ρ : Dv} {i : Int} (h : asI F ρ = some i) : F ρ = some (.int i) := by
  unfold asI at h
  cases e : F ρ with
  | none => rw [e] at h; cases h
  | some d =>
    rw [e] at h
    cases d <;> first | (cases h; rfl) | (cases h; done)
def someP (F : Fd) : Dv → Option (Option Int) := fun ρ => (asI F ρ).map some
theorem p_none : PO X none (RP X.K O noP) := ⟨fun pins s σ H Q I ⟨Γ, G, ρ, o, R, e, q⟩ => by cases e; exact po_none.run pins s σ H Q I (q G H (Stp.refl R.gh))⟩
theorem p_some (h : PE X a (RB X.K O F)) : PO X (some a) (RP X.K O (someP F)) := ⟨fun pins s σ H Q I ⟨Γ, G, ρ, o, R, e, q⟩ => by
  unfold someP at e
  cases e1 : asI F ρ with
  | none => rw [e1] at e; cases e
  | some i =>
    rw [e1] at e; cases e
    exact (po_some h).run pins s σ H Q I ⟨Γ, G, ρ, _, R, asI_some e1, fun v G' H' s b => ⟨i, b.int, q G' H' s⟩⟩⟩
def cutD (xs : List PyData) (lo hi : Option Int) : List PyData := (xs.drop (HT.sIx xs.length 0 lo)).take (HT.sIx xs.length xs.length hi - HT.sIx xs.length 0 lo)
theorem cut_dp {K : PySem.W.Frag} {G : Hp} {vs : List V} {ds : List PyData} (lo hi : Option Int) (h : DpAll K G vs ds) : DpAll K G (cutV vs lo hi) (cutD ds lo hi) := by
  unfold cutV cutD
  rw [h.length]
  exact (h.drop _).take _
/-- a tuple's slice: a part of it (the whole is the same object: not here) -/
def dSlT (d : PyData) (lo hi : Option Int) : Option PyData := match d with
  | .tuple xs => if ¬ (HT.sIx xs.length 0 lo = 0 ∧ HT.sIx xs.length xs.length hi = xs.length) then some (.tuple (cutD xs lo hi)) else none
  | _ => none
def dSlL (d : PyData) (lo hi : Option Int) : Option (List PyData) := match d with
  | .list xs => some (cutD xs lo hi)
  | _ => none
def slF {α : Type} (g : PyData → Option Int → Option Int → Option α) (F : Fd) (P P' : Dv → Option (Option Int)) : Dv → Option α := fun ρ => (F ρ).bind fun d => (P ρ).bind fun lo => (P' ρ).bind fun hi => g d lo hi
theorem slF_some {α : Type} {g : PyData → Option Int → Option Int → Option α} {P P' : Dv → Option (Option Int)} {ρ : Dv} {y : α} (h : slF g F P P' ρ = some y) : ∃ d lo hi, F ρ = some d ∧ P ρ = some lo ∧ P' ρ = some hi ∧ g d lo hi = some y := by
  unfold slF at h
  cases e1 : F ρ with
  | none => rw [e1] at h; cases h
  | some d =>
    cases e2 : P ρ with
    | none => rw [e1, e2] at h; cases h
    | some lo =>
      cases e3 : P' ρ with
      | none => rw [e1, e2, e3] at h; cases h
      | some hi => rw [e1, e2, e3] at h; exact ⟨d, lo, hi, rfl, rfl, rfl, h⟩
theorem d_slT {lo hi : Option Expr} {p2 : Pos} {P P' : Dv → Option (Option Int)} (ha : PE X a (RB X.K O F)) (hl : PO X lo (RP X.K O P)) (hu : PO X hi (RP X.K O P')) : PE X (.Subscript a (.Slice lo hi none p2) pos) (RD X.K O (slF dSlT F P P')) :=
  pe_imp (pe_slice sl_tup ha hl hu) fun σ H Q ⟨Γ, G, ρ, d, R, ef, q⟩ => by
    obtain ⟨dx, lo, hi, e1, e2, e3, e4⟩ := slF_some ef
    refine ⟨Γ, G, ρ, dx, R, e1, fun x G1 H1 s1 bx => ⟨Γ, G1, ρ, lo, R.stp s1, e2, fun G2 H2 s2 => ⟨Γ, G2, ρ, hi, (R.stp s1).stp s2, e3, fun G3 H3 s3 => ?_⟩⟩⟩
    cases dx <;> simp only [dSlT] at e4 <;> first | (cases e4; done) | skip
    split at e4
    · rename_i hw
      cases e4
      obtain ⟨p, vs, rfl, hp, da⟩ := ((bx.stp s2).stp s3).tup s3.gh
      refine ⟨p, vs, rfl, hp, by rw [da.length]; exact hw, fun p' hp' => ?_⟩
      have sg := Stp.newF (p := p') (o := .tup (cutV vs lo hi)) s3.gh hp'
      exact q _ _ _ (((s1.trans s2).trans s3).trans sg) (.tup (SqT.of upd_same) (dpAll_mono sg.gg _ _ (cut_dp lo hi da)))
    · cases e4
theorem o_slL {lo hi : Option Expr} {p2 : Pos} {P P' : Dv → Option (Option Int)} (ha : PE X a (RB X.K O F)) (hl : PO X lo (RP X.K O P)) (hu : PO X hi (RP X.K O P')) : PE X (.Subscript a (.Slice lo hi none p2) pos) (RO X.K O (slF dSlL F P P')) :=
  pe_imp (pe_slice sl_list ha hl hu) fun σ H Q ⟨Γ, G, ρ, d, R, ef, q⟩ => by
    obtain ⟨dx, lo, hi, e1, e2, e3, e4⟩ := slF_some ef
    refine ⟨Γ, G, ρ, dx, R, e1, fun x G1 H1 s1 bx => ⟨Γ, G1, ρ, lo, R.stp s1, e2, fun G2 H2 s2 => ⟨Γ, G2, ρ, hi, (R.stp s1).stp s2, e3, fun G3 H3 s3 => ?_⟩⟩⟩
    cases dx <;> simp only [dSlL] at e4 <;> first | (cases e4; done) | skip
    cases e4
    obtain ⟨p, vs, rfl, hp, da⟩ := ((bx.stp s2).stp s3).list s3.gh
    refine ⟨p, vs, rfl, hp, fun p' hp' => ?_⟩
    have sg := Stp.new (p := p') (o := .lst (cutV vs lo hi)) s3.gh hp'
    have s4 := (s1.trans s2).trans s3
    exact q _ _ _ _ (s4.trans sg) (s4.hh.free hp') (s3.gh.free hp') upd_same (cut_dp lo hi da)

/-! ### calls of built-ins -/
def rL (K : PySem.W.Frag) (g : List PyData → Option PyData) : List V → Hp → VK → Prop := fun vs H Q => ∃ G ds d, Same G H ∧ BdAll K G H vs ds ∧ g ds = some d ∧ ∀ v G' H', Stp G H G' H' → Dp K G' v d → Q v H'
def rLo (K : PySem.W.Frag) (g : List PyData → Option (List PyData)) : List V → Hp → VK → Prop := fun vs H Q => ∃ G ds es, Same G H ∧ BdAll K G H vs ds ∧ g ds = some es ∧
  ∀ p xs G' H', Stp G H G' H' → H p = none → G' p = none → H' p = some (.lst xs) → DpAll K G' xs es → Q (.ref p) H'
def fL {α : Type} (g : List PyData → Option α) (L : Fl) : Dv → Option α := fun ρ => (L ρ).bind g
theorem fL_some {α : Type} {g : List PyData → Option α} {ρ : Dv} {y : α} (h : fL g L ρ = some y) : ∃ ds, L ρ = some ds ∧ g ds = some y := by
  unfold fL at h
  cases e : L ρ with
  | none => rw [e] at h; cases h
  | some ds => rw [e] at h; exact ⟨ds, rfl, h⟩
variable {e : Expr} {es : List Expr} {x : Str} {p : Pos}
theorem cb_imp {g : List PyData → Option PyData} {σ : L2.St} {H : Hp} {Q : VK} (h : RD X.K O (fL g L) σ H Q) : tCB (rL X.K g) (RAb X.K O L) σ H Q := by
  obtain ⟨Γ, G, ρ, d, R, ef, q⟩ := h
  obtain ⟨ds, e1, e2⟩ := fL_some ef
  exact ⟨Γ, G, ρ, ds, R, e1, fun vs G1 H1 s1 b => ⟨G1, ds, d, s1.gh, b, e2, fun v G' H' s dv => q v G' H' (s1.trans s) dv⟩⟩
theorem cbo_imp {g : List PyData → Option (List PyData)} {σ : L2.St} {H : Hp} {Q : VK} (h : RO X.K O (fL g L) σ H Q) : tCB (rLo X.K g) (RAb X.K O L) σ H Q := by
  obtain ⟨Γ, G, ρ, ys, R, ef, q⟩ := h
  obtain ⟨ds, e1, e2⟩ := fL_some ef
  exact ⟨Γ, G, ρ, ds, R, e1, fun vs G1 H1 s1 b => ⟨G1, ds, ys, s1.gh, b, e2, fun p xs G' H' s n g hp da => q p xs G' H' (s1.trans s) (s1.hh.free n) g hp da⟩⟩
theorem d_callB {id : String} {g : List PyData → Option PyData} (hc : CallR X (.builtin id) (rL X.K g)) (hg : Gl X x) (hm : X.mg x = none) (hv : bootBuiltins x = some (.builtin id)) (ha : PA X (e :: es) (RAb X.K O L)) (hn : x ≠ "__name__" := by decide) (hdb : (x == ("__debug__" : Str)) = false := by decide)
    (he : starEach (e :: es) X.env = (false, eval e X.env) :: starEach es X.env := by rfl) (hpl : (backTo pos (starEach es X.env)).any (·.1) = false := by rfl) : PE X (.Call (.Name x p) (e :: es) [] pos) (RD X.K O (fL g L)) :=
  pe_imp (pe_callB hc hg hm hv ha hn hdb he hpl) fun σ H Q h => cb_imp h
theorem d_callT {T : String} {g : List PyData → Option PyData} (hc : CallR X (.type T) (rL X.K g)) (hg : Gl X x) (hm : X.mg x = none) (hv : bootBuiltins x = some (.type T)) (ha : PA X (e :: es) (RAb X.K O L)) (hn : x ≠ "__name__" := by decide) (hdb : (x == ("__debug__" : Str)) = false := by decide)
    (he : starEach (e :: es) X.env = (false, eval e X.env) :: starEach es X.env := by rfl) (hpl : (backTo pos (starEach es X.env)).any (·.1) = false := by rfl) : PE X (.Call (.Name x p) (e :: es) [] pos) (RD X.K O (fL g L)) :=
  pe_imp (pe_callTy hc hg hm hv ha hn hdb he hpl) fun σ H Q h => cb_imp h
theorem o_callB {id : String} {g : List PyData → Option (List PyData)} (hc : CallR X (.builtin id) (rLo X.K g)) (hg : Gl X x) (hm : X.mg x = none) (hv : bootBuiltins x = some (.builtin id)) (ha : PA X (e :: es) (RAb X.K O L)) (hn : x ≠ "__name__" := by decide) (hdb : (x == ("__debug__" : Str)) = false := by decide)
    (he : starEach (e :: es) X.env = (false, eval e X.env) :: starEach es X.env := by rfl) (hpl : (backTo pos (starEach es X.env)).any (·.1) = false := by rfl) : PE X (.Call (.Name x p) (e :: es) [] pos) (RO X.K O (fL g L)) :=
  pe_imp (pe_callB hc hg hm hv ha hn hdb he hpl) fun σ H Q h => cbo_imp h
theorem o_callT {T : String} {g : List PyData → Option (List PyData)} (hc : CallR X (.type T) (rLo X.K g)) (hg : Gl X x) (hm : X.mg x = none) (hv : bootBuiltins x = some (.type T)) (ha : PA X (e :: es) (RAb X.K O L)) (hn : x ≠ "__name__" := by decide) (hdb : (x == ("__debug__" : Str)) = false := by decide)
    (he : starEach (e :: es) X.env = (false, eval e X.env) :: starEach es X.env := by rfl) (hpl : (backTo pos (starEach es X.env)).any (·.1) = false := by rfl) : PE X (.Call (.Name x p) (e :: es) [] pos) (RO X.K O (fL g L)) :=
  pe_imp (pe_callTy hc hg hm hv ha hn hdb he hpl) fun σ H Q h => cbo_imp h
theorem BdAll.one {K : PySem.W.Frag} {G H : Hp} {vs : List V} {d : PyData} (h : BdAll K G H vs [d]) : ∃ v, vs = [v] ∧ Bd K G H v d := by
  cases h with | cons a t => cases t; exact ⟨_, rfl, a⟩
theorem BdAll.two {K : PySem.W.Frag} {G H : Hp} {vs : List V} {d d' : PyData} (h : BdAll K G H vs [d, d']) : ∃ v v', vs = [v, v'] ∧ Bd K G H v d ∧ Bd K G H v' d' := by
  cases h with | cons a t => cases t with | cons b t => cases t; exact ⟨_, _, rfl, a, b⟩
/-- the whole numbers that the data are -/
def intsD : List PyData → Option (List Int)
  | [] => some []
  | .int i :: r => (intsD r).map (i :: ·)
  | _ :: _ => none
theorem intsD_dp {K : PySem.W.Frag} {G : Hp} : ∀ {ds : List PyData} {ns : List Int} {vs : List V}, intsD ds = some ns → DpAll K G vs ds → vs = ns.map V.int
  | [], _, _, e, h => by cases e; cases h; rfl
  | d :: r, ns, _, e, h => by
    cases h with
    | cons a t =>
      cases d with
      | int i =>
        simp only [intsD] at e
        cases q : intsD r with
        | none => rw [q] at e; cases e
        | some ms =>
          rw [q] at e; cases e
          cases a
          rw [intsD_dp q t]; rfl
      | none => cases e
      | bool _ => cases e
      | str _ => cases e
      | list _ => cases e
      | tuple _ => cases e
      | dict _ => cases e
def dLen : List PyData → Option PyData
  | [.list xs] => some (.int xs.length)
  | [.tuple xs] => some (.int xs.length)
  | _ => none
theorem c_len : CallR X (.builtin "len") (rL X.K dLen) := by
  intro pins s σ H vs us Q I r ⟨G, ds, d, gh, b, eg, q⟩
  have two : (∃ xs, ds = [.list xs] ∧ d = .int xs.length) ∨ (∃ xs, ds = [.tuple xs] ∧ d = .int xs.length) := by
    unfold dLen at eg
    split at eg
    · cases eg; exact .inl ⟨_, rfl, rfl⟩
    · cases eg; exact .inr ⟨_, rfl, rfl⟩
    · cases eg
  rcases two with ⟨xs, rfl, rfl⟩ | ⟨xs, rfl, rfl⟩
  · obtain ⟨v, rfl, bv⟩ := b.one
    obtain ⟨p, ws, rfl, hp, da⟩ := bv.list gh
    exact call_len_seq pins s σ H _ us Q I r ⟨p, ws, rfl, .inl hp, q _ G H (Stp.refl gh) (by rw [da.length]; exact .int _)⟩
  · obtain ⟨v, rfl, bv⟩ := b.one
    obtain ⟨p, ws, rfl, hp, da⟩ := bv.tup gh
    exact call_len_seq pins s σ H _ us Q I r ⟨p, ws, rfl, .inr hp, q _ G H (Stp.refl gh) (by rw [da.length]; exact .int _)⟩
def dSum : List PyData → Option PyData
  | [.list xs] => (intsD xs).map fun ns => .int ns.sum
  | _ => none
theorem c_sum (hc : X.calm = true) : CallR X (.builtin "sum") (rL X.K dSum) := by
  intro pins s σ H vs us Q I r ⟨G, ds, d, gh, b, eg, q⟩
  unfold dSum at eg
  split at eg
  · rename_i xs
    cases e1 : intsD xs with
    | none => rw [e1] at eg; cases eg
    | some ns =>
      rw [e1] at eg; cases eg
      obtain ⟨v, rfl, bv⟩ := b.one
      obtain ⟨p, ws, rfl, hp, da⟩ := bv.list gh
      have ew := intsD_dp e1 da
      subst ew
      exact cr_sum hc pins s σ H _ us Q I r ⟨p, ns, rfl, hp, q _ G H (Stp.refl gh) (.int _)⟩
  · cases eg
def dMax : List PyData → Option PyData
  | [.list xs] => (intsD xs).bind fun ns => ns.max?.map .int
  | [.int i, .int j] => some (.int (if j > i then j else i))
  | _ => none
def dMin : List PyData → Option PyData
  | [.list xs] => (intsD xs).bind fun ns => ns.min?.map .int
  | [.int i, .int j] => some (.int (if j < i then j else i))
  | _ => none
theorem max_is {ns : List Int} {m m' : Int} (h : ns.max? = some m) (h1 : m' ∈ ns) (h2 : ∀ y, y ∈ ns → y ≤ m') : m' = m := by
  have e := (List.max?_eq_some_iff (α := Int)).mp h
  exact Int.le_antisymm (e.2 _ h1) (h2 _ e.1)
theorem min_is {ns : List Int} {m m' : Int} (h : ns.min? = some m) (h1 : m' ∈ ns) (h2 : ∀ y, y ∈ ns → m' ≤ y) : m' = m := by
  have e := (List.min?_eq_some_iff (α := Int)).mp h
  exact Int.le_antisymm (h2 _ e.1) (e.2 _ h1)
theorem c_max (hc : X.calm = true) : CallR X (.builtin "max") (rL X.K dMax) := by
  intro pins s σ H vs us Q I r ⟨G, ds, d, gh, b, eg, q⟩
  unfold dMax at eg
  split at eg
  · rename_i xs
    cases e1 : intsD xs with
    | none => rw [e1] at eg; cases eg
    | some ns =>
      rw [e1] at eg
      cases e2 : ns.max? with
      | none => rw [Option.bind_some, e2] at eg; cases eg
      | some m =>
        rw [Option.bind_some, e2] at eg; cases eg
        obtain ⟨v, rfl, bv⟩ := b.one
        obtain ⟨p, ws, rfl, hp, da⟩ := bv.list gh
        have ew := intsD_dp e1 da
        subst ew
        refine cr_max hc pins s σ H _ us Q I r ⟨p, ns, rfl, hp, ?_, fun m' h1 h2 => ?_⟩
        · cases ns with
          | nil => cases e2
          | cons _ _ => exact Nat.succ_pos _
        · rw [max_is e2 h1 h2]; exact q _ G H (Stp.refl gh) (.int _)
  · cases eg
    obtain ⟨v, v', rfl, b1, b2⟩ := b.two
    exact call_max2 hc pins s σ H _ us Q I r ⟨_, _, by rw [b1.int, b2.int], q _ G H (Stp.refl gh) (.int _)⟩
  · cases eg
theorem c_min (hc : X.calm = true) : CallR X (.builtin "min") (rL X.K dMin) := by
  intro pins s σ H vs us Q I r ⟨G, ds, d, gh, b, eg, q⟩
  unfold dMin at eg
  split at eg
  · rename_i xs
    cases e1 : intsD xs with
    | none => rw [e1] at eg; cases eg
    | some ns =>
      rw [e1] at eg
      cases e2 : ns.min? with
      | none => rw [Option.bind_some, e2] at eg; cases eg
      | some m =>
        rw [Option.bind_some, e2] at eg; cases eg
        obtain ⟨v, rfl, bv⟩ := b.one
        obtain ⟨p, ws, rfl, hp, da⟩ := bv.list gh
        have ew := intsD_dp e1 da
        subst ew
        refine cr_min hc pins s σ H _ us Q I r ⟨p, ns, rfl, hp, ?_, fun m' h1 h2 => ?_⟩
        · cases ns with
          | nil => cases e2
          | cons _ _ => exact Nat.succ_pos _
        · rw [min_is e2 h1 h2]; exact q _ G H (Stp.refl gh) (.int _)
  · cases eg
    obtain ⟨v, v', rfl, b1, b2⟩ := b.two
    exact call_min2 hc pins s σ H _ us Q I r ⟨_, _, by rw [b1.int, b2.int], q _ G H (Stp.refl gh) (.int _)⟩
  · cases eg
def boolsD : List PyData → Option (List Bool)
  | [] => some []
  | .bool i :: r => (boolsD r).map (i :: ·)
  | _ :: _ => none
theorem boolsD_dp {K : PySem.W.Frag} {G : Hp} : ∀ {ds : List PyData} {ns : List Bool} {vs : List V}, boolsD ds = some ns → DpAll K G vs ds → vs = ns.map V.bl
  | [], _, _, e, h => by cases e; cases h; rfl
  | d :: r, ns, _, e, h => by
    cases h with
    | cons a t =>
      cases d with
      | bool i =>
        simp only [boolsD] at e
        cases q : boolsD r with
        | none => rw [q] at e; cases e
        | some ms =>
          rw [q] at e; cases e
          cases a
          rw [boolsD_dp q t]; rfl
      | none => cases e
      | int _ => cases e
      | str _ => cases e
      | list _ => cases e
      | tuple _ => cases e
      | dict _ => cases e
def dAll : List PyData → Option PyData
  | [.list xs] => (boolsD xs).map fun ns => .bool (ns.all id)
  | _ => none
theorem c_all (hc : X.calm = true) : CallR X (.builtin "all") (rL X.K dAll) := by
  intro pins s σ H vs us Q I r ⟨G, ds, d, gh, b, eg, q⟩
  unfold dAll at eg
  split at eg
  · rename_i xs
    cases e1 : boolsD xs with
    | none => rw [e1] at eg; cases eg
    | some ns =>
      rw [e1] at eg; cases eg
      obtain ⟨v, rfl, bv⟩ := b.one
      obtain ⟨p, ws, rfl, hp, da⟩ := bv.list gh
      have ew := boolsD_dp e1 da
      subst ew
      exact cr_all hc pins s σ H _ us Q I r ⟨p, ns, rfl, hp, q _ G H (Stp.refl gh) (.bl _)⟩
  · cases eg
/-- list(x) -/
def dList : List PyData → Option (List PyData)
  | [.list xs] => some xs
  | [.tuple xs] => some xs
  | _ => none
theorem c_list : CallR X (.type "list") (rLo X.K dList) := by
  intro pins s σ H vs us Q I r ⟨G, ds, d, gh, b, eg, q⟩
  have two : (∃ xs, ds = [.list xs] ∧ d = xs) ∨ (∃ xs, ds = [.tuple xs] ∧ d = xs) := by
    unfold dList at eg
    split at eg
    · cases eg; exact .inl ⟨_, rfl, rfl⟩
    · cases eg; exact .inr ⟨_, rfl, rfl⟩
    · cases eg
  rcases two with ⟨xs, rfl, rfl⟩ | ⟨xs, rfl, rfl⟩
  · obtain ⟨v, rfl, bv⟩ := b.one
    obtain ⟨p, ws, rfl, hp, da⟩ := bv.list gh
    exact call_list_of pins s σ H _ us Q I r ⟨p, ws, rfl, .inl hp, fun l hl => q l _ G _ (Stp.new gh hl) hl (gh.free hl) upd_same da⟩
  · obtain ⟨v, rfl, bv⟩ := b.one
    obtain ⟨p, ws, rfl, hp, da⟩ := bv.tup gh
    exact call_list_of pins s σ H _ us Q I r ⟨p, ws, rfl, .inr hp, fun l hl => q l _ G _ (Stp.new gh hl) hl (gh.free hl) upd_same da⟩
def dTuple : List PyData → Option PyData
  | [.list xs] => some (.tuple xs)
  | [.tuple xs] => some (.tuple xs)
  | _ => none
theorem c_tuple : CallR X (.type "tuple") (rL X.K dTuple) := by
  intro pins s σ H vs us Q I r ⟨G, ds, d, gh, b, eg, q⟩
  have two : (∃ xs, ds = [.list xs] ∧ d = .tuple xs) ∨ (∃ xs, ds = [.tuple xs] ∧ d = .tuple xs) := by
    unfold dTuple at eg
    split at eg
    · cases eg; exact .inl ⟨_, rfl, rfl⟩
    · cases eg; exact .inr ⟨_, rfl, rfl⟩
    · cases eg
  rcases two with ⟨xs, rfl, rfl⟩ | ⟨xs, rfl, rfl⟩
  · obtain ⟨v, rfl, bv⟩ := b.one
    obtain ⟨p, ws, rfl, hp, da⟩ := bv.list gh
    refine call_tuple_of pins s σ H _ us Q I r ⟨p, ws, rfl, .inl ⟨hp, fun l hl => ?_⟩⟩
    have sg := Stp.newF (p := l) (o := .tup ws) gh hl
    exact q _ _ _ sg (.tup (SqT.of upd_same) (dpAll_mono sg.gg _ _ da))
  · obtain ⟨v, rfl, bv⟩ := b.one
    obtain ⟨p, ws, rfl, hp, da⟩ := bv.tup gh
    have dx : Dp X.K G (.ref p) (.tuple xs) := by
      rcases bv with b' | ⟨_, _, _, _, z, _⟩
      · exact b'
      · cases z
    exact call_tuple_of pins s σ H _ us Q I r ⟨p, ws, rfl, .inr ⟨hp, q _ G H (Stp.refl gh) dx⟩⟩
def dInt : List PyData → Option PyData
  | [.int i] => some (.int i)
  | [.bool b] => some (.int (if b then 1 else 0))
  | _ => none
theorem c_int : CallR X (.type "int") (rL X.K dInt) := by
  intro pins s σ H vs us Q I r ⟨G, ds, d, gh, b, eg, q⟩
  unfold dInt at eg
  split at eg
  · cases eg
    obtain ⟨v, rfl, bv⟩ := b.one
    exact call_int1 pins s σ H _ us Q I r (.inl ⟨_, by rw [bv.int], q _ G H (Stp.refl gh) (.int _)⟩)
  · cases eg
    obtain ⟨v, rfl, bv⟩ := b.one
    exact call_int1 pins s σ H _ us Q I r (.inr ⟨_, by rw [bv.bool], q _ G H (Stp.refl gh) (.int _)⟩)
  · cases eg
def dAbs : List PyData → Option PyData
  | [.int i] => some (.int (if i < 0 then -i else i))
  | _ => none
theorem c_abs : CallR X (.builtin "abs") (rL X.K dAbs) := by
  intro pins s σ H vs us Q I r ⟨G, ds, d, gh, b, eg, q⟩
  unfold dAbs at eg
  split at eg
  · cases eg
    obtain ⟨v, rfl, bv⟩ := b.one
    exact call_abs pins s σ H _ us Q I r ⟨_, by rw [bv.int], q _ G H (Stp.refl gh) (.int _)⟩
  · cases eg
/-- sorted(x) of alike data -/
def sortOk (xs : List PyData) : Bool := (xs.all fun x => xs.all fun y => PySem.W.alike x y) && ((xs.all fun x => match x with | .tuple (_ :: _) => true | _ => false) || xs.all fun x => match x with | .int _ => true | _ => false) && xs.all shal
def dSorted : List PyData → Option (List PyData)
  | [.list xs] => if sortOk xs then some (xs.mergeSort (PySem.W.dataLe false id)) else none
  | _ => none
theorem each_dp {K : PySem.W.Frag} {X : Cx} {pins : List (Addr × Obj)} {σ : L2.St} {H G : Hp} {s : Shared} (hK : X.K = K) (I : Inv X pins σ H s) (gh : Same G H) : ∀ {ds : List PyData} {vs : List V} {us : List Value}, DpAll K G vs ds → Vals vs us →
    PySem.W.EachIs (fun u d => ∃ v, RelV v u ∧ Dp K G v d ∧ ∃ as, Reads s.heap u d as) us ds
  | _, _, _, .nil, .nil => .nil
  | _, _, _, .cons a t, .cons r rr => by
    subst hK
    exact .cons ⟨_, r, a, Dp.reads I _ _ _ (dp_mono gh _ _ a) r⟩ (each_dp rfl I gh t rr)
theorem each_back {K : PySem.W.Frag} {G : Hp} {P : Value → PyData → Prop} : ∀ {ds : List PyData} {us : List Value}, PySem.W.EachIs (fun u d => ∃ v, RelV v u ∧ Dp K G v d ∧ P u d) us ds → ∃ vs, Vals vs us ∧ DpAll K G vs ds
  | _, _, .nil => ⟨[], .nil, .nil⟩
  | _, _, .cons ⟨v, r, d, _⟩ t => by
    obtain ⟨vs, h1, h2⟩ := each_back t
    exact ⟨v :: vs, .cons r h1, .cons d h2⟩
theorem sortOk_of {xs : List PyData} (h : sortOk xs = true) : PySem.W.AllAlike xs ∧ PySem.W.Sortable xs ∧ ∀ x, x ∈ xs → x.depth ≤ 100 := by
  unfold sortOk at h
  simp only [Bool.and_eq_true, Bool.or_eq_true, List.all_eq_true] at h
  obtain ⟨⟨h1, h2⟩, h3⟩ := h
  refine ⟨fun d hd d' hd' => h1 d hd d' hd', ?_, fun x hx => of_decide_eq_true (h3 x hx)⟩
  rcases h2 with h2 | h2
  · refine .inl fun d hd => ?_
    have := h2 d hd
    split at this
    · exact ⟨_, _, rfl⟩
    · cases this
  · refine .inr fun d hd => ?_
    have := h2 d hd
    split at this
    · exact ⟨(fun z => by cases z), (fun _ z => by cases z)⟩
    · cases this
theorem c_sorted (hu : X.A.units + 200 < cLine) : CallR X (.builtin "sorted") (rLo X.K dSorted) := by
  intro pins s σ H vs us Q I r ⟨G, ds, d, gh, b, eg, q⟩
  unfold dSorted at eg
  split at eg
  · rename_i xs
    split at eg
    · rename_i hok
      cases eg
      obtain ⟨v, rfl, bv⟩ := b.one
      obtain ⟨p, ws, rfl, hp, da⟩ := bv.list gh
      rw [Vals.ref1 r]
      obtain ⟨its, rv, pl, hz⟩ := I.list hp
      obtain ⟨k1, k2, k3⟩ := sortOk_of hok
      have e := each_dp rfl I gh da rv
      have hl : xs.length = ws.length := da.length.symm
      refine PySem.W.sorted_data (bs := xs) (enc := id) pl.isList e (e.mono fun _ _ ⟨_, _, _, z⟩ => z) (by rw [List.map_id]; exact k1) (by rw [List.map_id]; exact k2) (by rw [hl]; exact hz) (fun x hx => ?_) fun out hlen eo => ?_
      · have h1 := k3 x hx
        show X.A.units + 2 + (id x).depth < cLine
        simp only [id]
        omega
      · obtain ⟨vs', r1, d1⟩ := each_back eo
        obtain ⟨ep, he'⟩ := PyProof.Rows.sortedAll_at s.heap its (List.toArray out)
        have hfree : H (s.heap.objs.size + 1) = none := I.hok.fresh (Nat.le_succ _)
        have hl2 : vs'.length ≤ sizeLine := by rw [r1.length, hlen, hl]; exact hz
        exact ⟨.ref _, upd H (s.heap.objs.size + 1) (.lst vs'), I.laid (t' := s.toks) (fun _ _ => PyProof.Rows.sortedAll_old) (Nat.le_succ _) ⟨hl2, out, ep, r1, he'⟩, rfl, q _ _ G _ (Stp.new gh hfree) hfree (gh.free hfree) upd_same d1⟩
    · cases eg
  · cases eg

/-! ### isinstance of data -/
def dIsi (f : PyData → Bool) : PyData → Option PyData := fun d => some (.bool (f d))
def IsiOf (T : String) (f : PyData → Bool) : Prop := ∀ {prog : Program} {w : World} {A : Around} {E : Value → Shared → Prop} {s : Shared} {v : Value} {d : PyData} {as : List Addr} {Q : Value → Shared → Prop}, Reads s.heap v d as →
  (∀ tk, s.toks ≤ tk → Q (.bool (f d)) { s with toks := tk }) → wpAny (model prog w) A (call (.builtin "isinstance") [v, .type T]) Q E s
theorem isi_int : IsiOf "int" PyData.isInt := PySem.W.isinstance_int_data
theorem isi_bool : IsiOf "bool" PyData.isBool := PySem.W.isinstance_bool_data
theorem isi_str : IsiOf "str" PyData.isStr := PySem.W.isinstance_str_data
theorem isi_list : IsiOf "list" PyData.isList := PySem.W.isinstance_list_data
theorem isi_tuple : IsiOf "tuple" PyData.isTuple := PySem.W.isinstance_tuple_data
theorem isi_dict : IsiOf "dict" PyData.isDict := PySem.W.isinstance_dict_data
theorem d_isi {T : String} {f : PyData → Bool} {y : Str} {q p' : Pos} (hf : IsiOf T f) (hg : Gl X "isinstance") (hm : X.mg "isinstance" = none) (hgT : Gl X y) (hmT : X.mg y = none) (hvT : bootBuiltins y = some (.type T)) (ha : PE X e (RB X.K O F))
    (hn : y ≠ "__name__" := by decide) (hd : (y == ("__debug__" : Str)) = false := by decide)
    (hs : starEach [e, .Name y q] X.env = (false, eval e X.env) :: starEach [.Name y q] X.env := by rfl) (hs2 : starEach [.Name y q] X.env = (false, eval (.Name y q) X.env) :: starEach [] X.env := by rfl) (hpl : (backTo pos (starEach [.Name y q] X.env)).any (·.1) = false := by rfl)
    (hv : bootBuiltins "isinstance" = some (.builtin "isinstance") := by decide +kernel) :
    PE X (.Call (.Name "isinstance" p') [e, .Name y q] [] pos) (RD X.K O (f1 (dIsi f) F)) := by
  have hc : CallR X (.builtin "isinstance") (fun vs H Q => ∃ G v d, Same G H ∧ vs = [v, .ty T] ∧ Bd X.K G H v d ∧ Q (.bl (f d)) H) := by
    intro pins s σ H vs us Q I r ⟨G, v, d, gh, ev, b, q⟩
    subst ev
    obtain ⟨u1, u2, rfl, r1, r2⟩ := vals2 r
    cases (show u2 = Value.type T from r2)
    obtain ⟨as, rd⟩ := Dp.reads I d v u1 (b.dp gh) r1
    exact hf rd fun tk _ => ⟨.bl (f d), H, I.tok tk, rfl, q⟩
  refine pe_imp (pe_callB hc hg hm hv (pa_cons ha (pa_cons (pe_bltn (v := .ty T) hgT hmT hvT rfl hn hd) pa_nil hs2) hs) (by decide) (by decide) hs hpl) fun σ H Q ⟨Γ, G, ρ, d, R, ef, q⟩ => ?_
  unfold f1 at ef
  cases e1 : F ρ with
  | none => rw [e1] at ef; cases ef
  | some dx =>
    rw [e1] at ef; cases ef
    exact ⟨Γ, G, ρ, dx, R, e1, fun v G1 H1 s1 bv => ⟨G1, v, dx, s1.gh, rfl, bv, q _ G1 H1 s1 (.bl _)⟩⟩
end
end Dat
open PySem PySem.Spec PyProof.Rows L2
namespace Dat

/-! ### what is walked -/
structure ItD (K : PySem.W.Frag) (J : It) (ds : List PyData) (G : Hp) : Prop where
  go : ∀ i G1 H1, Same G G1 → Same G1 H1 → i < ds.length → J.go i H1
  yl : ∀ i G1 H1 x H2, Same G G1 → Same G1 H1 → i < ds.length → J.yld i H1 x H2 → ∃ G2 d, Stp G1 H1 G2 H2 ∧ ds[i]? = some d ∧ Dp K G2 x d
  st : ∀ G1 H1, Same G G1 → Same G1 H1 → J.stop ds.length H1
def RI (K : PySem.W.Frag) (O : Os) (Fs : Fl) : TI := fun σ H R => ∃ Γ G ρ ds, Rep K Γ G H O σ ρ ∧ Fs ρ = some ds ∧ ∀ J G' H', Stp G H G' H' → ItD K J ds G' → ds.length ≤ sizeLine → R J H'
section
variable {X : Cx} {e tg : Expr} {pos : Pos} {O : Os} {F : Fd} {L : Fl}
theorem pi_imp {t t' : TI} (h : PI X tg e t) (w : ∀ σ H R, t' σ H R → t σ H R) : PI X tg e t' := ⟨fun pins s σ H R I q => h.run pins s σ H R I (w _ _ _ q)⟩
/-- a value's size, known of the heap -/
def SzOk (K : PySem.W.Frag) (v : V) (H : Hp) : Prop := ∀ a xs, v = .ref a → SqL K H a xs ∨ SqT K H a xs → xs.length ≤ sizeLine
def tSz (K : PySem.W.Frag) (t : TE) : TE := fun σ H Q => t σ H fun v H' => SzOk K v H' → Q v H'
theorem pe_sz {t : TE} (h : PE X e t) : PE X e (tSz X.K t) := ⟨fun pins s σ H Q I q => thn (h.run pins s σ H _ I q) fun u s1 ⟨v, H1, I1, r, k⟩ => ⟨v, H1, I1, r, k fun a xs ev hq => by
  rcases hq with hq | hq
  · obtain ⟨_, _, _, z⟩ := I1.list hq; exact z
  · obtain ⟨_, _, _, z⟩ := I1.tuple hq; exact z⟩⟩
/-- the items of a list or a tuple -/
def seqF (F : Fd) : Fl := fun ρ => (F ρ).bind fun d => match d with | .list xs => some xs | _ => none
def seqT (F : Fd) : Fl := fun ρ => (F ρ).bind fun d => match d with | .tuple xs => some xs | _ => none
theorem seqF_some {ρ : Dv} {ds : List PyData} (h : seqF F ρ = some ds) : F ρ = some (.list ds) := by
  unfold seqF at h
  cases e1 : F ρ with
  | none => rw [e1] at h; cases h
  | some d => rw [e1] at h; cases d <;> first | (cases h; rfl) | (cases h; done)
theorem seqT_some {ρ : Dv} {ds : List PyData} (h : seqT F ρ = some ds) : F ρ = some (.tuple ds) := by
  unfold seqT at h
  cases e1 : F ρ with
  | none => rw [e1] at h; cases h
  | some d => rw [e1] at h; cases d <;> first | (cases h; rfl) | (cases h; done)
theorem itd_list {K : PySem.W.Frag} {a : Addr} {xs : List V} {ds : List PyData} {G : Hp} (hq : SqL K G a xs) (da : DpAll K G xs ds) : ItD K (Itl K a) ds G := by
  refine ⟨fun i G1 H1 s1 s2 hi => ?_, fun i G1 H1 x H2 s1 s2 hi ⟨eh, y⟩ => ?_, fun G1 H1 s1 s2 => ⟨xs, s2.seq (s1.seq hq), by rw [da.length]; exact Nat.le_refl _⟩⟩
  · have hl : i < xs.length := by rw [da.length]; exact hi
    exact ⟨xs, xs[i], s2.seq (s1.seq hq), List.getElem?_eq_getElem hl⟩
  · subst eh
    obtain ⟨d, hd, hv⟩ := da.getV (y xs (s2.seq (s1.seq hq)))
    exact ⟨G1, d, Stp.refl s2, hd, dp_mono s1 _ _ hv⟩
theorem itd_tup {K : PySem.W.Frag} {a : Addr} {xs : List V} {ds : List PyData} {G : Hp} (hq : SqT K G a xs) (da : DpAll K G xs ds) : ItD K (Itt K a) ds G := by
  refine ⟨fun i G1 H1 s1 s2 hi => ?_, fun i G1 H1 x H2 s1 s2 hi ⟨eh, y⟩ => ?_, fun G1 H1 s1 s2 => ⟨xs, seqT_same s2 (seqT_same s1 hq), by rw [da.length]; exact Nat.le_refl _⟩⟩
  · have hl : i < xs.length := by rw [da.length]; exact hi
    exact ⟨xs, xs[i], seqT_same s2 (seqT_same s1 hq), List.getElem?_eq_getElem hl⟩
  · subst eh
    obtain ⟨d, hd, hv⟩ := da.getV (y xs (seqT_same s2 (seqT_same s1 hq)))
    exact ⟨G1, d, Stp.refl s2, hd, dp_mono s1 _ _ hv⟩
theorem i_list (h : PE X e (RD X.K O F)) : PI X tg e (RI X.K O (seqF F)) := pi_imp (pi_list (pe_sz h)) fun σ H R' ⟨Γ, G, ρ, ds, R, ef, q⟩ => by
  refine ⟨Γ, G, ρ, _, R, seqF_some ef, fun v G1 H1 s1 dv sz => ?_⟩
  cases dv with
  | lst hq da => exact ⟨_, rfl, ⟨_, s1.gh.seq hq⟩, q _ G1 H1 s1 (itd_list hq da) (by rw [← da.length]; exact sz _ _ rfl (.inl (s1.gh.seq hq)))⟩
theorem i_tup (h : PE X e (RD X.K O F)) : PI X tg e (RI X.K O (seqT F)) := pi_imp (pi_tup (pe_sz h)) fun σ H R' ⟨Γ, G, ρ, ds, R, ef, q⟩ => by
  refine ⟨Γ, G, ρ, _, R, seqT_some ef, fun v G1 H1 s1 dv sz => ?_⟩
  cases dv with
  | tup hq da => exact ⟨_, rfl, ⟨_, seqT_same s1.gh hq⟩, q _ G1 H1 s1 (itd_tup hq da) (by rw [← da.length]; exact sz _ _ rfl (.inr (seqT_same s1.gh hq)))⟩
/-- lo, lo + 1, .. (n of them) -/
def upFrom (lo : Int) (n : Nat) : List PyData := (List.range n).map fun k => .int (lo + (k : Nat))
theorem upFrom_length (lo : Int) (n : Nat) : (upFrom lo n).length = n := by simp [upFrom]
theorem upFrom_get {lo : Int} {n i : Nat} (h : i < n) : (upFrom lo n)[i]? = some (.int (lo + i)) := by simp [upFrom, h]
theorem itd_range {K : PySem.W.Frag} {lo : Int} {n : Nat} {G : Hp} : ItD K (Itr lo n) (upFrom lo n) G := by
  refine ⟨fun i G1 H1 s1 s2 hi => by rw [upFrom_length] at hi; exact hi, fun i G1 H1 x H2 s1 s2 hi ⟨eh, y⟩ => ?_, fun G1 H1 s1 s2 => by rw [upFrom_length]; exact Nat.le_refl _⟩
  subst eh y
  rw [upFrom_length] at hi
  exact ⟨G1, _, Stp.refl s2, upFrom_get hi, .int _⟩
def dRange : List PyData → Option (List PyData)
  | [.int j] => if j ≤ 16777216 ∧ -16777216 ≤ j then some (upFrom 0 j.toNat) else none
  | [.int i, .int j] => if j ≤ 16777216 ∧ -16777216 ≤ i ∧ i ≤ 16777216 ∧ -16777216 ≤ j ∧ j - i ≤ 16777216 then some (upFrom i (j - i).toNat) else none
  | _ => none
def exN (n : Nat) (L : Fl) : Fl := fun ρ => (L ρ).bind fun ds => if ds.length = n then some ds else none
theorem i_range1 {a : Expr} {p : Pos} (hg : Gl X "range") (hm : X.mg "range" = none) (ha : PA X [a] (RAb X.K O L)) (hs : starEach [a] X.env = [(false, eval a X.env)] := by rfl) : PI X tg (.Call (.Name "range" p) [a] [] pos) (RI X.K O (fL dRange (exN 1 L))) :=
  pi_imp (pi_range1 hg hm ha hs) fun σ H R' ⟨Γ, G, ρ, ds, R, ef, q⟩ => by
    obtain ⟨as, e1, e2⟩ := fL_some ef
    unfold exN at e1
    cases e3 : L ρ with
    | none => rw [e3] at e1; cases e1
    | some bs =>
      rw [e3] at e1
      have e1' : (if bs.length = 1 then some bs else none) = some as := e1
      split at e1'
      · rename_i h1
        cases e1'
        refine ⟨Γ, G, ρ, as, R, e3, fun vs G1 H1 s1 b => ?_⟩
        unfold dRange at e2
        split at e2
        · split at e2
          · rename_i hj
            cases e2
            obtain ⟨v, rfl, bv⟩ := b.one
            exact ⟨_, by rw [bv.int], by omega, by omega, q _ G1 H1 s1 itd_range (by rw [upFrom_length, line_eq]; omega)⟩
          · cases e2
        · cases h1
        · cases e2
      · cases e1'
theorem i_range2 {a b : Expr} {p : Pos} (hg : Gl X "range") (hm : X.mg "range" = none) (ha : PA X [a, b] (RAb X.K O L)) (hs : starEach [a, b] X.env = [(false, eval a X.env), (false, eval b X.env)] := by rfl) (hs2 : starEach [b] X.env = [(false, eval b X.env)] := by rfl) :
    PI X tg (.Call (.Name "range" p) [a, b] [] pos) (RI X.K O (fL dRange (exN 2 L))) :=
  pi_imp (pi_range2 hg hm ha hs hs2) fun σ H R' ⟨Γ, G, ρ, ds, R, ef, q⟩ => by
    obtain ⟨as, e1, e2⟩ := fL_some ef
    unfold exN at e1
    cases e3 : L ρ with
    | none => rw [e3] at e1; cases e1
    | some bs =>
      rw [e3] at e1
      have e1' : (if bs.length = 2 then some bs else none) = some as := e1
      split at e1'
      · rename_i h1
        cases e1'
        refine ⟨Γ, G, ρ, as, R, e3, fun vs G1 H1 s1 b => ?_⟩
        unfold dRange at e2
        split at e2
        · cases h1
        · split at e2
          · rename_i hj
            cases e2
            obtain ⟨v, v', rfl, b1, b2⟩ := b.two
            exact ⟨_, _, by rw [b1.int, b2.int], by omega, q _ G1 H1 s1 itd_range (by rw [upFrom_length, line_eq]; omega)⟩
          · cases e2
        · cases e2
      · cases e1'
/-- (0, x0), (1, x1), .. -/
def numbered (ds : List PyData) : List PyData := ds.mapIdx fun i d => .tuple [.int (i : Nat), d]
theorem itd_enum {K : PySem.W.Frag} {a : Addr} {xs : List V} {ds : List PyData} {G : Hp} (hq : SqL K G a xs) (da : DpAll K G xs ds) : ItD K (Ite K a) (numbered ds) G := by
  have hn : (numbered ds).length = ds.length := by simp [numbered]
  refine ⟨fun i G1 H1 s1 s2 hi => ?_, fun i G1 H1 x H2 s1 s2 hi ⟨T, z, ex, hT, eH, y⟩ => ?_, fun G1 H1 s1 s2 => ⟨xs, s2.seq (s1.seq hq), by rw [hn, da.length]; exact Nat.le_refl _⟩⟩
  · have hl : i < xs.length := by rw [da.length]; omega
    exact ⟨xs, xs[i], s2.seq (s1.seq hq), List.getElem?_eq_getElem hl⟩
  · subst ex eH
    obtain ⟨d, hd, hv⟩ := da.getV (y xs (s2.seq (s1.seq hq)))
    have sg := Stp.newF (p := T) (o := .tup [.int (i : Nat), z]) s2 hT
    refine ⟨_, .tuple [.int (i : Nat), d], sg, by simp [numbered, hd], .tup (SqT.of upd_same) (.cons (.int _) (.cons (dp_mono (s1.trans sg.gg) _ _ hv) .nil))⟩
def enF (F : Fd) : Fl := fun ρ => (seqF F ρ).map numbered
theorem i_enum {a : Expr} {p tpos : Pos} {elts : List Expr} {kk : Nat} (hg : Gl X "enumerate") (hm : X.mg "enumerate" = none) (h : PE X a (RD X.K O F)) (hs : starEach [a] X.env = [(false, eval a X.env)] := by rfl) (hs1 : starEach [a] X.env = (false, eval a X.env) :: starEach [] X.env := by rfl) :
    PI X (.Tuple elts kk tpos) (.Call (.Name "enumerate" p) [a] [] pos) (RI X.K O (enF F)) :=
  pi_imp (pi_enum hg hm (pa_cons (pe_sz h) pa_nil hs1) hs) fun σ H R' ⟨Γ, G, ρ, ds, R, ef, q⟩ => by
    unfold enF at ef
    cases e1 : seqF F ρ with
    | none => rw [e1] at ef; cases ef
    | some xs =>
      rw [e1] at ef; cases ef
      refine ⟨Γ, G, ρ, _, R, seqF_some e1, fun v G1 H1 s1 dv sz => ?_⟩
      cases dv with
      | lst hq da => exact ⟨_, _, rfl, s1.gh.seq hq, q _ G1 H1 s1 (itd_enum hq da) (by show (numbered xs).length ≤ _; simp only [numbered, List.length_mapIdx]; rw [← da.length]; exact sz _ _ rfl (.inl (s1.gh.seq hq)))⟩

/-! ### targets -/
abbrev Tgt := PyData → Dv → Option Dv
def TgD (K : PySem.W.Frag) (O : Os) (g : TG) (tgt : Tgt) (vs : List Nat) : Prop := ∀ (Γ : Gh) (G H : Hp) (σ : L2.St) (ρ ρ' : Dv) (v : V) (d : PyData) (Q : L2.St → Hp → Prop), Rep K Γ G H O σ ρ → Dp K G v d → tgt d ρ = some ρ' →
  (∀ σ', Rep K Γ G H O σ' ρ' → (∀ ws : List Nat, (∀ x, x ∈ vs → x ∈ ws) → wipe σ' ws = wipe σ ws) → Q σ' H) → g v σ H Q
theorem wipe_get (σ : L2.St) (k : Nat) : ∀ ws : List Nat, (wipe σ ws)[k]? = if k ∈ ws then (if k < σ.length then some none else none) else σ[k]?
  | [] => by simp [wipe]
  | w :: ws => by
    have ih := wipe_get σ k ws
    unfold wipe
    by_cases h : w = k
    · subst h
      by_cases hl : w < σ.length
      · rw [List.getElem?_set_self (by rw [wipe_length]; exact hl)]; simp [hl]
      · rw [List.getElem?_eq_none (by rw [List.length_set, wipe_length]; omega)]; simp [hl]
    · rw [List.getElem?_set_ne h, ih]
      have : k ∈ w :: ws ↔ k ∈ ws := by simp [List.mem_cons, Ne.symm h]
      by_cases hk : k ∈ ws
      · rw [if_pos hk, if_pos (this.mpr hk)]
      · rw [if_neg hk, if_neg (fun z => hk (this.mp z))]
theorem wipe_set {σ : L2.St} {i : Nat} {x : Option V} {ws : List Nat} (h : i ∈ ws) : wipe (σ.set i x) ws = wipe σ ws := by
  apply List.ext_getElem?
  intro k
  rw [wipe_get, wipe_get, List.length_set]
  by_cases hk : k ∈ ws
  · rw [if_pos hk, if_pos hk]
  · rw [if_neg hk, if_neg hk, List.getElem?_set_ne (fun z => hk (by rw [← z]; exact h))]
theorem wipe_wipe (σ : L2.St) (ws : List Nat) : wipe (wipe σ ws) ws = wipe σ ws := by
  apply List.ext_getElem?
  intro k
  rw [wipe_get, wipe_get, wipe_length]
  by_cases hk : k ∈ ws
  · rw [if_pos hk, if_pos hk]
  · rw [if_neg hk]
/-- a frozen value is stored in a slot that is not the def's own -/
theorem Rep.store {K : PySem.W.Frag} {Γ : Gh} {G H : Hp} {O : Os} {σ : L2.St} {ρ : Dv} {i : Nat} {v : V} {d : PyData} (R : Rep K Γ G H O σ ρ) (hi : nin i O = true) (dv : Dp K G v d) : Rep K Γ G H O (σ.set i (some v)) (ρ.set i (some d)) := by
  have ne : ∀ {j : Nat} {kd : Kd}, (j, kd) ∈ O → i ≠ j := fun {j kd} m z => nin_of hi (kd := kd) (by rw [z]; exact m)
  refine ⟨R.base, by rw [List.length_set, List.length_set]; exact R.len, fun j d' hj e => ?_, ?_, fun j kd w m => ?_, R.uq⟩
  · by_cases h : i = j
    · subst h
      have hl : i < ρ.length := by
        have := (List.getElem?_eq_some_iff.mp e).1
        rwa [List.length_set] at this
      rw [List.getElem?_set_self hl] at e
      cases e
      exact ⟨v, List.getElem?_set_self (by rw [R.len]; exact hl), dv⟩
    · rw [List.getElem?_set_ne h] at e
      obtain ⟨v', h1, h2⟩ := R.fz j d' hj e
      exact ⟨v', by rw [List.getElem?_set_ne h]; exact h1, h2⟩
  · obtain ⟨fp, h1, h2⟩ := R.ow
    refine ⟨fp, fun j kd d' hj e => ?_, h2⟩
    rw [List.getElem?_set_ne (ne hj)] at e
    obtain ⟨v', e1, r⟩ := h1 j kd d' hj e
    exact ⟨v', by rw [List.getElem?_set_ne (ne hj)]; exact e1, r⟩
  · obtain ⟨p1, p2, p3⟩ := R.par j kd w m
    exact ⟨p1, p2, by rw [List.getElem?_set_ne (ne p1)]; exact p3⟩
def tgN (i : Nat) : Tgt := fun d ρ => some (ρ.set i (some d))
theorem tg_n {K : PySem.W.Frag} {i : Nat} (hi : nin i O = true) : TgD K O (gName i) (tgN i) [i] := fun Γ G H σ ρ ρ' v d Q R dv e q => by
  cases e
  exact q _ (R.store hi dv) fun ws hw => wipe_set (hw i (by simp))
def tgP (i j : Nat) : Tgt := fun d ρ => match d with | .tuple [a, b] => some ((ρ.set i (some a)).set j (some b)) | _ => none
theorem tg_p {K : PySem.W.Frag} {i j : Nat} (hi : nin i O = true) (hj : nin j O = true) : TgD K O (gTup K 2 (gCons (gName i) (gCons (gName j) gNil))) (tgP i j) [i, j] := fun Γ G H σ ρ ρ' v d Q R dv e q => by
  have hd : ∃ a b, d = .tuple [a, b] ∧ (ρ.set i (some a)).set j (some b) = ρ' := by
    unfold tgP at e
    split at e
    · cases e; exact ⟨_, _, rfl, rfl⟩
    · cases e
  obtain ⟨a, b, rfl, rfl⟩ := hd
  cases dv with
  | tup hq da =>
    cases da with
    | cons d1 t =>
      cases t with
      | cons d2 t =>
        cases t
        exact ⟨_, _, rfl, seqT_same R.gh hq, rfl, _, _, rfl, _, _, rfl, rfl, q _ ((R.store hi d1).store hj d2) fun ws hw => by rw [wipe_set (hw j (by simp)), wipe_set (hw i (by simp))]⟩
def tgT (i j k : Nat) : Tgt := fun d ρ => match d with | .tuple [a, b, c] => some (((ρ.set i (some a)).set j (some b)).set k (some c)) | _ => none

/-! ### comprehensions -/
def wipeD (ρ : Dv) : List Nat → Dv
  | [] => ρ
  | v :: vs => (wipeD ρ vs).set v none
theorem wipeD_length (ρ : Dv) : ∀ vs : List Nat, (wipeD ρ vs).length = ρ.length
  | [] => rfl
  | v :: vs => by unfold wipeD; rw [List.length_set, wipeD_length ρ vs]
theorem wipeD_get (σ : Dv) (k : Nat) : ∀ ws : List Nat, (wipeD σ ws)[k]? = if k ∈ ws then (if k < σ.length then some none else none) else σ[k]?
  | [] => by simp [wipeD]
  | w :: ws => by
    have ih := wipeD_get σ k ws
    unfold wipeD
    by_cases h : w = k
    · subst h
      by_cases hl : w < σ.length
      · rw [List.getElem?_set_self (by rw [wipeD_length]; exact hl)]; simp [hl]
      · rw [List.getElem?_eq_none (by rw [List.length_set, wipeD_length]; omega)]; simp [hl]
    · rw [List.getElem?_set_ne h, ih]
      have : k ∈ w :: ws ↔ k ∈ ws := by simp [List.mem_cons, Ne.symm h]
      by_cases hk : k ∈ ws
      · rw [if_pos hk, if_pos (this.mpr hk)]
      · rw [if_neg hk, if_neg (fun z => hk (this.mp z))]
theorem wipeD_some {ρ : Dv} {k : Nat} {ws : List Nat} {d : PyData} (h : (wipeD ρ ws)[k]? = some (some d)) : k ∉ ws ∧ ρ[k]? = some (some d) := by
  rw [wipeD_get] at h
  by_cases hk : k ∈ ws
  · rw [if_pos hk] at h
    split at h
    · cases h
    · cases h
  · rw [if_neg hk] at h; exact ⟨hk, h⟩
theorem Rep.wiped {K : PySem.W.Frag} {Γ : Gh} {G H : Hp} {σ : L2.St} {ρ : Dv} (R : Rep K Γ G H O σ ρ) (ws : List Nat) (hw : ws.all (fun i => nin i O) = true) : Rep K Γ G H O (wipe σ ws) (wipeD ρ ws) := by
  have ne : ∀ {k : Nat}, k ∉ ws → (wipe σ ws)[k]? = σ[k]? := fun {k} hk => by rw [wipe_get, if_neg hk]
  refine ⟨R.base, by rw [wipe_length, wipeD_length]; exact R.len, fun j d hj e => ?_, ?_, fun j kd w m => ?_, R.uq⟩
  · obtain ⟨h1, h2⟩ := wipeD_some e
    obtain ⟨v, h3, h4⟩ := R.fz j d hj h2
    exact ⟨v, by rw [ne h1]; exact h3, h4⟩
  · obtain ⟨fp, h1, h2⟩ := R.ow
    refine ⟨fp, fun j kd d hj e => ?_, h2⟩
    obtain ⟨q1, q2⟩ := wipeD_some e
    obtain ⟨v, e1, r⟩ := h1 j kd d hj q2
    exact ⟨v, by rw [ne q1]; exact e1, r⟩
  · obtain ⟨p1, p2, p3⟩ := R.par j kd w m
    refine ⟨p1, p2, ?_⟩
    rw [ne fun hj => nin_of (List.all_eq_true.mp hw j hj) p1]
    exact p3
def lcGo (tgt : Tgt) (C : Dv → Option Bool) (E : Fd) (ρ : Dv) : List PyData → Option (List PyData)
  | [] => some []
  | d :: ds => (tgt d ρ).bind fun ρ1 => match C ρ1 with
    | some true => (E ρ1).bind fun y => (lcGo tgt C E ρ ds).map (y :: ·)
    | some false => lcGo tgt C E ρ ds
    | none => none
def lcF (Fs : Fl) (vs : List Nat) (tgt : Tgt) (C : Dv → Option Bool) (E : Fd) : Fl := fun ρ => (Fs ρ).bind fun ds => lcGo tgt C E (wipeD ρ vs) ds
def yesT : Dv → Option Bool := fun _ => some true
theorem lc_imp {K : PySem.W.Frag} {Fs : Fl} {vs us : List Nat} {g : TG} {tgt : Tgt} {C : Dv → Option Bool} {E : Fd} (htg : TgD K O g tgt us) (hus : ∀ x, x ∈ us → x ∈ vs) (hvs : vs.all (fun i => nin i O) = true) {σ : L2.St} {H : Hp} {Q : VK} (h : RO K O (lcF Fs vs tgt C E) σ H Q) : tLc (RI K O Fs) g (RT K O C) (RD K O E) vs σ H Q := by
  obtain ⟨Γ, G, ρ, ys, R, ef, q⟩ := h
  unfold lcF at ef
  cases e1 : Fs ρ with
  | none => rw [e1] at ef; cases ef
  | some ds =>
    rw [e1] at ef
    have ef : lcGo tgt C E (wipeD ρ vs) ds = some ys := ef
    refine ⟨Γ, G, ρ, ds, R, e1, fun J G1 H1 s1 it len D hD => ?_⟩
    have gD : G1 D = none := s1.gh.free hD
    refine ⟨fun i m H2 => m = ds.length - i ∧ i ≤ ds.length ∧ ∃ G2 acc done rest, Stp G1 H1 G2 H2 ∧ G2 D = none ∧ H2 D = some (.lst acc) ∧ acc.length ≤ i ∧ DpAll K G2 acc done ∧ lcGo tgt C E (wipeD ρ vs) (ds.drop i) = some rest ∧ ys = done ++ rest,
      ⟨ds.length, by simp, Nat.zero_le _, G1, [], [], ys, Stp.new s1.gh hD, gD, upd_same, Nat.le_refl _, .nil, ef, rfl⟩, ?_⟩
    rintro i m H2 ⟨rfl, hi, G2, acc, done, rest, s2, g2, h2, hl, da, el, ey⟩
    by_cases hlt : i < ds.length
    · refine .inr ⟨it.go i G2 H2 s2.gg s2.gh hlt, fun H' => ds.length - (i + 1) = ds.length - (i + 1) ∧ i + 1 ≤ ds.length ∧ ∃ G2 acc done rest, Stp G1 H1 G2 H' ∧ G2 D = none ∧ H' D = some (.lst acc) ∧ acc.length ≤ i + 1 ∧ DpAll K G2 acc done ∧ lcGo tgt C E (wipeD ρ vs) (ds.drop (i + 1)) = some rest ∧ ys = done ++ rest,
        fun H' w => ⟨_, by omega, w⟩, fun x H3 y => ?_⟩
      obtain ⟨G3, d, s3, hd, dv⟩ := it.yl i G2 H2 x H3 s2.gg s2.gh hlt y
      have ed : ds.drop i = d :: ds.drop (i + 1) := by
        rw [List.drop_eq_getElem_cons hlt]
        congr 1
        rw [List.getElem?_eq_getElem hlt] at hd
        exact Option.some.inj hd
      rw [ed] at el
      simp only [lcGo] at el
      cases e2 : tgt d (wipeD ρ vs) with
      | none => rw [e2] at el; cases el
      | some ρ1 =>
        rw [e2, Option.bind_some] at el
        have hH2 : H2 D ≠ none := by rw [h2]; exact fun z => nomatch z
        have g3 : G3 D = none := s3.sep D hH2 g2
        have h3 : H3 D = some (.lst acc) := s3.hh _ _ h2
        have R3 := (((R.stp s1).stp s2).stp s3).wiped vs hvs
        refine htg Γ G3 H3 _ _ _ x d _ R3 dv e2 fun σ' R' hw => ⟨(hw vs hus).trans (wipe_wipe σ vs), ?_⟩
        cases e3 : C ρ1 with
        | none => rw [e3] at el; cases el
        | some b =>
          rw [e3] at el
          refine ⟨Γ, G3, ρ1, b, R', e3, fun G4 H4 s4 => ?_⟩
          have g4 : G4 D = none := s4.sep D (by rw [h3]; exact fun z => nomatch z) g3
          have h4 : H4 D = some (.lst acc) := s4.hh _ _ h3
          have s14 := (s2.trans s3).trans s4
          cases b with
          | false =>
            exact iteF ⟨rfl, hlt, G4, acc, done, rest, s14, g4, h4, by omega, dpAll_mono (s3.gg.trans s4.gg) _ _ da, el, ey⟩
          | true =>
            have el : ((E ρ1).bind fun y => (lcGo tgt C E (wipeD ρ vs) (ds.drop (i + 1))).map (y :: ·)) = some rest := el
            cases e5 : E ρ1 with
            | none => rw [e5] at el; cases el
            | some y1 =>
              rw [e5, Option.bind_some] at el
              cases e6 : lcGo tgt C E (wipeD ρ vs) (ds.drop (i + 1)) with
              | none => rw [e6] at el; cases el
              | some rest' =>
                rw [e6] at el; cases el
                refine iteT ⟨Γ, G4, ρ1, y1, R'.stp s4, e5, fun v G5 H5 s5 dv5 => ?_⟩
                have g5 : G5 D = none := s5.sep D (by rw [h4]; exact fun z => nomatch z) g4
                have h5 : H5 D = some (.lst acc) := s5.hh _ _ h4
                have s15 := s14.trans s5
                refine ⟨acc, h5, by omega, rfl, hlt, G5, acc ++ [v], done ++ [y1], rest', ?_, g5, upd_same, by rw [List.length_append, List.length_singleton]; omega, (dpAll_mono ((s3.gg.trans s4.gg).trans s5.gg) _ _ da).append (.cons dv5 .nil), rfl, by rw [ey, List.append_assoc]; rfl⟩
                refine ⟨fun a u z => ?_, s15.gg, fun a u z => ?_, s15.sep⟩
                · rw [upd_ne (ne_of_none z hD)]; exact s15.hh a u z
                · rw [upd_ne (ne_of_none z g5)]; exact s15.gh a u z
    · have hi' : i = ds.length := by omega
      refine .inl ⟨by rw [hi']; exact it.st G2 H2 s2.gg s2.gh, ?_⟩
      rw [hi', List.drop_length] at el
      cases el
      rw [List.append_nil] at ey
      subst ey
      exact q D acc G2 H2 (s1.trans s2) (s1.hh.free hD) g2 h2 da
theorem o_lc {elt iter : Expr} {ifs : List Expr} {scope : Scope} {own : List (Str × Nat)} {Fs : Fl} {us : List Nat} {g : TG} {tgt : Tgt} {C : Dv → Option Bool} {E : Fd} (hc : X.calm = true) (hN : X.N.Nodup) (hi : PI X tg iter (RI X.K O Fs)) (ok : BlkOk X.N X.env.scope scope own)
    (htg : TgD X.K O g tgt us) (hus : ∀ x, x ∈ us → x ∈ own.map (·.2)) (hvs : (own.map (·.2)).all (fun i => nin i O) = true)
    (hg : ∀ (s : Shared) (H : Hp) (C : Addr) (cl : List (Str × Addr)) (fp : List Addr), PG (X.blk s H scope (compEnvC scope cl C X.env) fp) tg g) (ht : ∀ (s : Shared) (H : Hp) (C' : Addr) (cl : List (Str × Addr)) (fp : List Addr), PTs (X.blk s H scope (compEnvC scope cl C' X.env) fp) ifs (RT X.K O C))
    (he : ∀ (s : Shared) (H : Hp) (C : Addr) (cl : List (Str × Addr)) (fp : List Addr), PE (X.blk s H scope (compEnvC scope cl C X.env) fp) elt (RD X.K O E)) (hs : ∀ x, foldedSetIterable iter X.env x = pure x := by intro _; rfl) :
    PE X (.ListComp elt [⟨tg, iter, ifs, 0⟩] scope pos) (RO X.K O (lcF Fs (own.map (·.2)) tgt C E)) :=
  pe_imp (pe_lc hc hN hi ok hg ht he hs) fun σ H Q h => lc_imp htg hus hvs h
theorem ts_nil : PTs X [] (RT X.K O yesT) := ⟨fun pins s σ H Q I ⟨Γ, G, ρ, b, R, e, q⟩ => by cases e; exact pts_nil.run pins s σ H Q I (q G H (Stp.refl R.gh))⟩
theorem ts_one {c : Expr} {C : Dv → Option Bool} (h : PT X c (RT X.K O C)) : PTs X [c] (RT X.K O C) := pts_one h
end
end Dat
open PySem PySem.Spec PyProof.Rows L2
namespace Dat

/-! ### statements -/
inductive Res where
  | nx (ρ : Dv) | ret (d : PyData) (ρ : Dv) | brk (ρ : Dv) | ct (ρ : Dv)
  /-- an exception of the class at c leaves -/
  | exc (c : Addr) (ρ : Dv)
abbrev Bs := Dv → Option Res
def Fin' (K : PySem.W.Frag) (W : XK) (Γ : Gh) (O OL : Os) (D : Ends) : Res → Prop
  | .nx ρ => ∀ σ G H, Rep K Γ G H O σ ρ → D.nx σ H
  | .ret d ρ => ∀ v σ G H Or, Rep K Γ G H Or σ ρ → Dp K G v d → D.rt v H
  | .brk ρ => ∀ σ G H, Rep K Γ G H OL σ ρ → D.bk σ H
  | .ct ρ => ∀ σ G H, Rep K Γ G H OL σ ρ → D.ct σ H
  | .exc c ρ => ∀ σ G H Or, Rep K Γ G H Or σ ρ → W (.ref c) none H
/-- O: the def's own things ahead of it, O': behind it, OL: where a loop's turn ends; W: what is wanted of an exception -/
def RS (K : PySem.W.Frag) (W : XK) (O O' OL : Os) (B : Bs) : TS := fun D σ H => ∃ Γ G ρ r, Rep K Γ G H O σ ρ ∧ B ρ = some r ∧ Fin' K W Γ O' OL D r
section
variable {W : XK} {X : Cx} {st : Stmt} {rest body : List Stmt} {e a : Expr} {pos pos' : Pos} {O O1 O' OL : Os} {F : Fd} {L : Fl} {B B' : Bs} {C : Dv → Option Bool}
theorem ps_imp {t t' : TS} (h : PS X st t) (w : ∀ D σ H, t' D σ H → t D σ H) : PS X st t' := ⟨fun pins s σ H D I q => h.run pins s σ H D I (w _ _ _ q)⟩
theorem pss_imp {t t' : TS} (h : PSs X rest t) (w : ∀ D σ H, t' D σ H → t D σ H) : PSs X rest t' := ⟨fun pins s σ H D I q => h.run pins s σ H D I (w _ _ _ q)⟩
def nopS : Bs := fun ρ => some (.nx ρ)
def seqS (B B' : Bs) : Bs := fun ρ => match B ρ with | some (.nx ρ') => B' ρ' | r => r
theorem s_nil : PSs X [] (RS X.K W O O OL nopS) := pss_imp pss_nil fun D σ H ⟨Γ, G, ρ, r, R, e, f⟩ => by cases e; exact f σ G H R
theorem s_cons (h : PS X st (RS X.K W O O1 OL B)) (h' : PSs X rest (RS X.K W O1 O' OL B')) : PSs X (st :: rest) (RS X.K W O O' OL (seqS B B')) := pss_imp (pss_cons h h') fun D σ H ⟨Γ, G, ρ, r, R, e, f⟩ => by
  unfold seqS at e
  cases q : B ρ with
  | none => rw [q] at e; cases e
  | some z =>
    rw [q] at e
    refine ⟨Γ, G, ρ, z, R, q, ?_⟩
    cases z with
    | nx ρ' => exact fun σ' G' H' R' => ⟨Γ, G', ρ', r, R', e, f⟩
    | ret d ρ' => cases e; exact f
    | brk ρ' => cases e; exact f
    | ct ρ' => cases e; exact f
    | exc c ρ' => cases e; exact f
theorem s_one (h : PS X st (RS X.K W O O' OL B)) : PSs X [st] (RS X.K W O O' OL B) := pss_one h
theorem s_pass : PS X (.Pass pos) (RS X.K W O O OL nopS) := ps_imp ps_pass fun D σ H ⟨Γ, G, ρ, r, R, e, f⟩ => by cases e; exact f σ G H R
theorem s_doc {x : Str} {j : Nat} : PS X (.Expr (.Constant (.str x) j pos) pos') (RS X.K W O O OL nopS) := ps_imp ps_doc fun D σ H ⟨Γ, G, ρ, r, R, e, f⟩ => by cases e; exact f σ G H R
def brkS : Bs := fun ρ => some (.brk ρ)
def ctS : Bs := fun ρ => some (.ct ρ)
theorem s_break : PS X (.Break pos) (RS X.K W O O' O brkS) := ps_imp ps_break fun D σ H ⟨Γ, G, ρ, r, R, e, f⟩ => by cases e; exact f σ G H R
theorem s_continue : PS X (.Continue pos) (RS X.K W O O' O ctS) := ps_imp ps_continue fun D σ H ⟨Γ, G, ρ, r, R, e, f⟩ => by cases e; exact f σ G H R
/-- an own list is frozen ahead of a statement -/
theorem s_frz (i : Nat) (hl : lsl i O = true) (h : PS X st (RS X.K W (dropO i O) O' OL B)) : PS X st (RS X.K W O O' OL B) := ps_imp h fun D σ H ⟨Γ, G, ρ, r, R, e, f⟩ => by
  obtain ⟨G', _, R'⟩ := R.freeze i hl
  exact ⟨Γ, G', ρ, r, R', e, f⟩
theorem ss_frz (i : Nat) (hl : lsl i O = true) (h : PSs X rest (RS X.K W (dropO i O) O' OL B)) : PSs X rest (RS X.K W O O' OL B) := pss_imp h fun D σ H ⟨Γ, G, ρ, r, R, e, f⟩ => by
  obtain ⟨G', _, R'⟩ := R.freeze i hl
  exact ⟨Γ, G', ρ, r, R', e, f⟩
/-- .. behind a block -/
theorem ss_frzE (i : Nat) (hl : lsl i O1 = true) (h : PSs X rest (RS X.K W O O1 OL B)) (e1 : O' = dropO i O1) : PSs X rest (RS X.K W O O' OL B) := pss_imp h fun D σ H ⟨Γ, G, ρ, r, R, e, f⟩ => by
  subst e1
  refine ⟨Γ, G, ρ, r, R, e, ?_⟩
  cases r with
  | nx ρ' =>
    intro σ' G' H' R'
    obtain ⟨G2, _, R2⟩ := Rep.freeze R' i hl
    exact f σ' G2 H' R2
  | ret d ρ' => exact f
  | brk ρ' => exact f
  | ct ρ' => exact f
  | exc c ρ' => exact f
def ifS (C : Dv → Option Bool) (B B' : Bs) : Bs := fun ρ => match C ρ with | some true => B ρ | some false => B' ρ | none => none
theorem s_if {c : Expr} {x y : List Stmt} (hc : PT X c (RT X.K O C)) (h : PSs X x (RS X.K W O O' OL B)) (h' : PSs X y (RS X.K W O O' OL B')) : PS X (.If c x y pos) (RS X.K W O O' OL (ifS C B B')) := ps_imp (ps_if hc h h') fun D σ H ⟨Γ, G, ρ, r, R, e, f⟩ => by
  unfold ifS at e
  cases q : C ρ with
  | none => rw [q] at e; cases e
  | some k =>
    rw [q] at e
    cases k with
    | true => exact ⟨Γ, G, ρ, true, R, q, fun G' H' s => iteT ⟨Γ, G', ρ, r, R.stp s, e, f⟩⟩
    | false => exact ⟨Γ, G, ρ, false, R, q, fun G' H' s => iteF ⟨Γ, G', ρ, r, R.stp s, e, f⟩⟩
def retS (F : Fd) : Bs := fun ρ => (F ρ).map fun d => .ret d ρ
theorem s_ret (h : PE X e (RD X.K O F)) : PS X (.Return (some e) pos) (RS X.K W O O' OL (retS F)) := ps_imp (ps_ret h) fun D σ H ⟨Γ, G, ρ, r, R, er, f⟩ => by
  unfold retS at er
  cases q : F ρ with
  | none => rw [q] at er; cases er
  | some d => rw [q] at er; cases er; exact ⟨Γ, G, ρ, d, R, q, fun v G' H' s dv => f v σ G' H' O (R.stp s) dv⟩
def retN : Bs := fun ρ => some (.ret .none ρ)
theorem s_retN : PS X (.Return none pos) (RS X.K W O O' OL retN) := ps_imp ps_retN fun D σ H ⟨Γ, G, ρ, r, R, er, f⟩ => by cases er; exact f _ σ G H O R .non
/-- .. of an own list -/
theorem s_retV {j : Str} (i : Nat) (h : PE X (.Name j pos') (tVar i)) (hl : lsl i O = true := by rfl) : PS X (.Return (some (.Name j pos')) pos) (RS X.K W O O' OL (retS (vF i))) := s_frz i hl (s_ret (d_var i h (nin_drop.mpr (.inr rfl))))
def exS (F : Fd) : Bs := fun ρ => (F ρ).map fun _ => .nx ρ
theorem s_expr (h : PE X e (RD X.K O F)) (hs : swapsWith e none pos.line X.env = pure false := by rfl) : PS X (.Expr e pos) (RS X.K W O O OL (exS F)) := ps_imp (ps_expr h hs) fun D σ H ⟨Γ, G, ρ, r, R, er, f⟩ => by
  unfold exS at er
  cases q : F ρ with
  | none => rw [q] at er; cases er
  | some d => rw [q] at er; cases er; exact ⟨Γ, G, ρ, d, R, q, fun v G' H' s dv => f σ G' H' (R.stp s)⟩
/-! ### x = e -/
def setS (i : Nat) (F : Fd) : Bs := fun ρ => (F ρ).map fun d => .nx (ρ.set i (some d))
theorem setS_some {i : Nat} {ρ : Dv} {r : Res} (h : setS i F ρ = some r) : ∃ d, F ρ = some d ∧ r = .nx (ρ.set i (some d)) := by
  unfold setS at h
  cases q : F ρ with
  | none => rw [q] at h; cases h
  | some d => rw [q] at h; cases h; exact ⟨d, rfl, rfl⟩
theorem set_imp {i : Nat} {te : TE} {D : Ends} {σ : L2.St} {H : Hp} (hi : nin i O = true) (w : ∀ Q, RD X.K O F σ H Q → te σ H Q) (h : RS X.K W O O OL (setS i F) D σ H) : tAsg te (gName i) D σ H := by
  obtain ⟨Γ, G, ρ, r, R, er, f⟩ := h
  obtain ⟨d, e1, rfl⟩ := setS_some er
  exact w _ ⟨Γ, G, ρ, d, R, e1, fun v G' H' s dv => f _ G' H' ((R.stp s).store hi dv)⟩
theorem s_set {i : Nat} {x : Str} (hN : X.N.Nodup) (hi : X.N[i]? = some x) (hx : Loc X.env.scope x) (hO : nin i O = true) (he : PE X e (RD X.K O F)) (hs : swapsWith e (some (.Name x pos')) pos.line X.env = pure false := by rfl) (hf : X.fn x = true ∨ X.env.scope.names.lookup x = some .local := by first | exact .inl rfl | exact .inr rfl | assumption) :
    PS X (.Assign [.Name x pos'] e pos) (RS X.K W O O OL (setS i F)) := ps_imp (ps_set hN hi hx he hs hf) fun D σ H h => set_imp hO (fun Q h' => h') h
def setO (i : Nat) (L : Fl) : Bs := setS i (lstF L)
def insK (i : Nat) (kd : Kd) (O : Os) : Os := if nin i O then (i, kd) :: O else O.map fun p => if p.1 == i then (i, kd) else p
theorem mem_insK {i j : Nat} {kd k : Kd} {O : Os} : (j, k) ∈ insK i kd O ↔ (j = i ∧ k = kd) ∨ (j ≠ i ∧ (j, k) ∈ O) := by
  unfold insK
  cases h : nin i O with
  | true =>
    rw [if_pos rfl, List.mem_cons, Prod.mk.injEq]
    constructor
    · rintro (⟨rfl, rfl⟩ | m)
      · exact .inl ⟨rfl, rfl⟩
      · exact .inr ⟨fun z => nin_of h (by rw [← z]; exact m), m⟩
    · rintro (⟨rfl, rfl⟩ | ⟨_, m⟩)
      · exact .inl ⟨rfl, rfl⟩
      · exact .inr m
  | false =>
    rw [if_neg Bool.false_ne_true, List.mem_map]
    constructor
    · rintro ⟨⟨a, b⟩, m, e⟩
      by_cases q : a = i
      · subst q
        simp at e
        exact .inl ⟨e.1.symm, e.2.symm⟩
      · simp [q] at e
        obtain ⟨rfl, rfl⟩ := e
        exact .inr ⟨q, m⟩
    · rintro (⟨rfl, rfl⟩ | ⟨n, m⟩)
      · rcases own_or (i := j) (O := O) with q | ⟨kd', m⟩
        · rw [h] at q; cases q
        · exact ⟨(j, kd'), m, by simp⟩
      · exact ⟨(j, k), m, by simp [n]⟩
theorem nin_insK {i j : Nat} {kd : Kd} {O : Os} (h : nin j (insK i kd O) = true) : j ≠ i ∧ nin j O = true := by
  have hne : j ≠ i := fun z => nin_of h (kd := kd) (mem_insK.mpr (.inl ⟨z, rfl⟩))
  refine ⟨hne, ?_⟩
  rcases own_or (i := j) (O := O) with q | ⟨k, m⟩
  · exact q
  · exact absurd (mem_insK.mpr (.inr ⟨hne, m⟩)) (nin_of h)
open Classical in
noncomputable def fpN (O : Os) (ρ : Dv) (fq : Nat → List Addr) (i : Nat) (fp : List Addr) : Nat → List Addr := fun j => if j = i then fp else if ∃ k d', (j, k) ∈ O ∧ ρ[j]? = some (some d') then fq j else []
theorem fpN_self {O : Os} {ρ : Dv} {fq : Nat → List Addr} {i : Nat} {fp : List Addr} : fpN O ρ fq i fp i = fp := by unfold fpN; rw [if_pos rfl]
theorem fpN_live {O : Os} {ρ : Dv} {fq : Nat → List Addr} {i j : Nat} {fp : List Addr} {k : Kd} {d : PyData} (hne : j ≠ i) (m : (j, k) ∈ O) (e : ρ[j]? = some (some d)) : fpN O ρ fq i fp j = fq j := by unfold fpN; rw [if_neg hne, if_pos ⟨k, d, m, e⟩]
theorem fpN_mem {O : Os} {ρ : Dv} {fq : Nat → List Addr} {i j : Nat} {fp : List Addr} {a : Addr} (hne : j ≠ i) (h : a ∈ fpN O ρ fq i fp j) : a ∈ fq j ∧ ∃ k d', (j, k) ∈ O ∧ ρ[j]? = some (some d') := by
  unfold fpN at h
  rw [if_neg hne] at h
  by_cases z : ∃ k d', (j, k) ∈ O ∧ ρ[j]? = some (some d')
  · rw [if_pos z] at h; exact ⟨h, z⟩
  · rw [if_neg z] at h; cases h
/-- a slot gets a new thing of the def's own -/
theorem Rep.storeK {K : PySem.W.Frag} {Γ : Gh} {G H G' H' : Hp} {σ : L2.St} {ρ : Dv} {i : Nat} {kd : Kd} {v : V} {fp : List Addr} {d : PyData} (R : Rep K Γ G H O σ ρ) (s : Stp G H G' H') (hl : lsl i O = true) (o : Own K G' H' kd v fp d) (n : ∀ a, a ∈ fp → H a = none ∧ G' a = none) :
    Rep K Γ G' H' (insK i kd O) (σ.set i (some v)) (ρ.set i (some d)) := by
  have R' := R.stp s
  refine ⟨R'.base, by rw [List.length_set, List.length_set]; exact R.len, fun j d' hj e => ?_, ?_, fun j k w m => ?_, fun j k k' m m' => ?_⟩
  · obtain ⟨h1, h2⟩ := nin_insK hj
    rw [List.getElem?_set_ne (Ne.symm h1)] at e
    obtain ⟨v', h3, h4⟩ := R'.fz j d' h2 e
    exact ⟨v', by rw [List.getElem?_set_ne (Ne.symm h1)]; exact h3, h4⟩
  · obtain ⟨fq, h1, h2⟩ := R.ow
    -- the footprints: the others' as far as they are alive
    refine ⟨fpN O ρ fq i fp, fun j k d' hj e => ?_, fun j j' a hne ha hb => ?_⟩
    · rcases mem_insK.mp hj with ⟨rfl, rfl⟩ | ⟨hne, m⟩
      · have hlen : j < ρ.length := by
          have := (List.getElem?_eq_some_iff.mp e).1
          rwa [List.length_set] at this
        rw [List.getElem?_set_self hlen] at e
        cases e
        refine ⟨v, List.getElem?_set_self (by rw [R.len]; exact hlen), by rw [fpN_self]; exact o, fun a ha => ?_⟩
        rw [fpN_self] at ha
        exact ⟨R.base.hh.free (n a ha).1, (n a ha).2⟩
      · rw [List.getElem?_set_ne (Ne.symm hne)] at e
        obtain ⟨v', e1, o', n'⟩ := h1 j k d' m e
        refine ⟨v', by rw [List.getElem?_set_ne (Ne.symm hne)]; exact e1, ?_, fun a ha => ?_⟩
        · rw [fpN_live hne m e]; exact o'.stp s
        · rw [fpN_live hne m e] at ha
          exact ⟨(n' a ha).1, s.sep a (o'.here a ha) (n' a ha).2⟩
    · have alive : ∀ {q : Nat}, q ≠ i → a ∈ fpN O ρ fq i fp q → a ∈ fq q ∧ H a ≠ none := fun {q} hq h => by
        obtain ⟨z, k, d', m, e⟩ := fpN_mem hq h
        obtain ⟨_, _, o', _⟩ := h1 q k d' m e
        exact ⟨z, o'.here a z⟩
      by_cases hj : j = i
      · have hj' : j' ≠ i := fun z => hne (hj.trans z.symm)
        subst hj
        rw [fpN_self] at ha
        exact (alive hj' hb).2 (n a ha).1
      · obtain ⟨a1, a2⟩ := alive hj ha
        by_cases hj' : j' = i
        · subst hj'
          rw [fpN_self] at hb
          exact a2 (n a hb).1
        · exact h2 j j' a hne a1 (alive hj' hb).1
  · obtain ⟨p1, p2, p3⟩ := R.par j k w m
    have hne : j ≠ i := fun z => by subst z; rw [lsl_of hl p1] at p2; cases p2
    exact ⟨mem_insK.mpr (.inr ⟨hne, p1⟩), p2, by rw [List.getElem?_set_ne (Ne.symm hne)]; exact p3⟩
  · rcases mem_insK.mp m with ⟨rfl, rfl⟩ | ⟨hne, m⟩
    · rcases mem_insK.mp m' with ⟨_, rfl⟩ | ⟨hne, _⟩
      · rfl
      · exact absurd rfl hne
    · rcases mem_insK.mp m' with ⟨z, _⟩ | ⟨_, m'⟩
      · exact absurd z hne
      · exact R.uq j k k' m m'
/-- a thing of the def's own is changed, or another one made of it is put into its place -/
theorem Rep.changeV {K : PySem.W.Frag} {Γ : Gh} {G H : Hp} {σ : L2.St} {ρ : Dv} {i : Nat} {kd : Kd} {d : PyData} (R : Rep K Γ G H O σ ρ) (hi : (i, kd) ∈ O) (e : ρ[i]? = some (some d)) :
    ∃ v fp, σ[i]? = some (some v) ∧ Own K G H kd v fp d ∧ (∀ a, a ∈ fp → Γ.H0 a = none ∧ G a = none) ∧
      ∀ (G' H1 H' : Hp) (v' : V) (fp' : List Addr) (d' : PyData), Stp G H G' H1 → (∀ a, a ∈ fp → G' a = none) → (kd.isL = true ∨ v' = v) → Own K G' H' kd v' fp' d' → (∀ a, a ∉ fp → H1 a ≠ none → H' a = H1 a) → (∀ a, a ∈ fp' → a ∈ fp ∨ (H a = none ∧ G' a = none)) → Rep K Γ G' H' O (σ.set i (some v')) (ρ.set i (some d')) := by
  obtain ⟨fq, h1, h2⟩ := R.ow
  obtain ⟨v, e1, o, n⟩ := h1 i kd d hi e
  have hlen : i < ρ.length := (List.getElem?_eq_some_iff.mp e).1
  refine ⟨v, fq i, e1, o, n, fun G' H1 H' v' fp' d' s gn hk o' kp new => ?_⟩
  have R' := R.stp s
  have keep : ∀ a u, a ∉ fq i → H1 a = some u → H' a = some u := fun a u ha q => by rw [kp a ha (by rw [q]; exact fun z => nomatch z)]; exact q
  refine ⟨⟨fun a u q => keep a u (fun z => ?_) (R'.base.hh a u q), R'.base.gg, fun a u q => keep a u (fun z => ?_) (R'.base.gh a u q), R'.base.sep⟩, by rw [List.length_set, List.length_set]; exact R.len, fun j d2 hj e2 => ?_, ?_, fun j k w m => ?_, R.uq⟩
  · rw [(n a z).1] at q; cases q
  · rw [gn a z] at q; cases q
  · have hne : i ≠ j := fun z => nin_of hj (kd := kd) (by rw [← z]; exact hi)
    rw [List.getElem?_set_ne hne] at e2
    rw [List.getElem?_set_ne hne]
    exact R'.fz j d2 hj e2
  · refine ⟨fpN O ρ fq i fp', fun j k d2 hj e2 => ?_, fun j j' a hne ha hb => ?_⟩
    · by_cases hji : j = i
      · subst hji
        rw [List.getElem?_set_self hlen] at e2
        cases e2
        have ek := R.uq j k kd hj hi
        subst ek
        refine ⟨v', List.getElem?_set_self (by rw [R.len]; exact hlen), by rw [fpN_self]; exact o', fun a ha => ?_⟩
        rw [fpN_self] at ha
        rcases new a ha with z | ⟨z, z'⟩
        · exact ⟨(n a z).1, gn a z⟩
        · exact ⟨R.base.hh.free z, z'⟩
      · rw [List.getElem?_set_ne (Ne.symm hji)] at e2
        obtain ⟨_, f1, f2, f3⟩ := h1 j k d2 hj e2
        refine ⟨_, (List.getElem?_set_ne (Ne.symm hji)).trans f1, ?_, fun a ha => ?_⟩
        · rw [fpN_live hji hj e2]
          refine (f2.stp s).frame (Same.refl _) fun a ha => kp a (h2 j i a hji ha) ((f2.stp s).here a ha)
        · rw [fpN_live hji hj e2] at ha
          exact ⟨(f3 a ha).1, s.sep a (f2.here a ha) (f3 a ha).2⟩
    · have alive : ∀ {q : Nat}, q ≠ i → a ∈ fpN O ρ fq i fp' q → a ∈ fq q ∧ H a ≠ none := fun {q} hq h => by
        obtain ⟨z, k, d', m, e⟩ := fpN_mem hq h
        obtain ⟨_, _, o', _⟩ := h1 q k d' m e
        exact ⟨z, o'.here a z⟩
      have cross : ∀ {q : Nat}, q ≠ i → a ∈ fp' → a ∈ fq q → H a ≠ none → False := fun {q} hq ha' hb' hh => by
        rcases new a ha' with z | ⟨z, _⟩
        · exact h2 q i a hq hb' z
        · exact hh z
      by_cases hj : j = i
      · have hj' : j' ≠ i := fun z => hne (hj.trans z.symm)
        subst hj
        rw [fpN_self] at ha
        obtain ⟨b1, b2⟩ := alive hj' hb
        exact cross hj' ha b1 b2
      · obtain ⟨a1, a2⟩ := alive hj ha
        by_cases hj' : j' = i
        · subst hj'
          rw [fpN_self] at hb
          exact cross hj hb a1 a2
        · exact h2 j j' a hne a1 (alive hj' hb).1
  · obtain ⟨p1, p2, p3⟩ := R.par j k w m
    refine ⟨p1, p2, ?_⟩
    by_cases hji : j = i
    · subst hji
      have ek := R.uq j k kd p1 hi
      subst ek
      rcases hk with hk | hk
      · rw [hk] at p2; cases p2
      · rw [e1] at p3
        cases p3
        rw [hk]
        exact List.getElem?_set_self (by rw [R.len]; exact hlen)
    · rw [List.getElem?_set_ne (Ne.symm hji)]; exact p3
theorem set_self {α : Type} {l : List α} {i : Nat} {x : α} (h : l[i]? = some x) : l.set i x = l := by
  apply List.ext_getElem?
  intro k
  by_cases e : i = k
  · subst e; rw [List.getElem?_set_self (List.getElem?_eq_some_iff.mp h).1, h]
  · rw [List.getElem?_set_ne e]
/-- a thing of the def's own is changed -/
theorem Rep.change {K : PySem.W.Frag} {Γ : Gh} {G H : Hp} {σ : L2.St} {ρ : Dv} {i : Nat} {kd : Kd} {d : PyData} (R : Rep K Γ G H O σ ρ) (hi : (i, kd) ∈ O) (e : ρ[i]? = some (some d)) :
    ∃ v fp, σ[i]? = some (some v) ∧ Own K G H kd v fp d ∧ (∀ a, a ∈ fp → Γ.H0 a = none ∧ G a = none) ∧
      ∀ (G' H1 H' : Hp) (fp' : List Addr) (d' : PyData), Stp G H G' H1 → (∀ a, a ∈ fp → G' a = none) → Own K G' H' kd v fp' d' → (∀ a, a ∉ fp → H1 a ≠ none → H' a = H1 a) → (∀ a, a ∈ fp' → a ∈ fp ∨ (H a = none ∧ G' a = none)) → Rep K Γ G' H' O σ (ρ.set i (some d')) := by
  obtain ⟨v, fp, h1, h2, h3, ch⟩ := R.changeV hi e
  refine ⟨v, fp, h1, h2, h3, fun G' H1 H' fp' d' s gn o kp new => ?_⟩
  have := ch G' H1 H' v fp' d' s gn (.inr rfl) o kp new
  rwa [set_self h1] at this
theorem seto_imp {i : Nat} {te : TE} {D : Ends} {σ : L2.St} {H : Hp} (hl : lsl i O = true) (hO : O' = insK i .lst O) (w : ∀ Q, RO X.K O L σ H Q → te σ H Q) (h : RS X.K W O O' OL (setO i L) D σ H) : tAsg te (gName i) D σ H := by
  obtain ⟨Γ, G, ρ, r, R, er, f⟩ := h
  obtain ⟨d, e1, rfl⟩ := setS_some er
  unfold lstF at e1
  cases q : L ρ with
  | none => rw [q] at e1; cases e1
  | some ds =>
    rw [q] at e1; cases e1
    exact w _ ⟨Γ, G, ρ, ds, R, q, fun p xs G' H' s n g hp da => f _ G' H' (by rw [hO]; exact R.storeK s hl (.lst hp da) fun a ha => by rw [List.mem_singleton.mp ha]; exact ⟨n, g⟩)⟩
theorem s_setO {i : Nat} {x : Str} (hN : X.N.Nodup) (hi : X.N[i]? = some x) (hx : Loc X.env.scope x) (hl : lsl i O = true) (hO : O' = insK i .lst O) (he : PE X e (RO X.K O L)) (hs : swapsWith e (some (.Name x pos')) pos.line X.env = pure false := by rfl) (hf : X.fn x = true ∨ X.env.scope.names.lookup x = some .local := by first | exact .inl rfl | exact .inr rfl | assumption) :
    PS X (.Assign [.Name x pos'] e pos) (RS X.K W O O' OL (setO i L)) := ps_imp (ps_set hN hi hx he hs hf) fun D σ H h => seto_imp hl hO (fun Q h' => h') h
/-- x = [e for ..] on one line, x a plain local -/
theorem s_setLc {i : Nat} {y : Str} {py spos : Pos} {elt iter tg : Expr} {ifs : List Expr} {scope : Scope} {own : List (Str × Nat)} {Fs : Fl} {us : List Nat} {g : TG} {tgt : Tgt} {C : Dv → Option Bool} {E : Fd} (hc : X.calm = true) (hN : X.N.Nodup) (hy : X.N[i]? = some y) (hyl : X.env.scope.names.lookup y = some .local) (hO : nin i O = true)
    (hsw : swapsWith (.ListComp elt [⟨tg, iter, ifs, 0⟩] scope pos) (some (.Name y py)) spos.line X.env = pure true) (hi : PI X tg iter (RI X.K O Fs)) (ok : BlkOk X.N X.env.scope scope own)
    (htg : TgD X.K O g tgt us) (hus : ∀ x, x ∈ us → x ∈ own.map (·.2)) (hvs : (own.map (·.2)).all (fun i => nin i O) = true)
    (hg : ∀ (s : Shared) (H : Hp) (C : Addr) (cl : List (Str × Addr)) (fp : List Addr), PG (X.blk s H scope (compEnvC scope cl C X.env) fp) tg g) (ht : ∀ (s : Shared) (H : Hp) (C' : Addr) (cl : List (Str × Addr)) (fp : List Addr), PTs (X.blk s H scope (compEnvC scope cl C' X.env) fp) ifs (RT X.K O C))
    (he : ∀ (s : Shared) (H : Hp) (C : Addr) (cl : List (Str × Addr)) (fp : List Addr), PE (X.blk s H scope (compEnvC scope cl C X.env) fp) elt (RD X.K O E)) (hs : ∀ x, foldedSetIterable iter X.env x = pure x := by intro _; rfl) :
    PS X (.Assign [.Name y py] (.ListComp elt [⟨tg, iter, ifs, 0⟩] scope pos) spos) (RS X.K W O O OL (setS i (lstF (lcF Fs (own.map (·.2)) tgt C E)))) :=
  ps_imp (ps_setLc hc hN hy hyl hsw hi ok hg ht he hs) fun D σ H h => by
    obtain ⟨Γ, G, ρ, r, R, er, f⟩ := h
    obtain ⟨d, e1, rfl⟩ := setS_some er
    unfold lstF at e1
    cases q : lcF Fs (own.map (·.2)) tgt C E ρ with
    | none => rw [q] at e1; cases e1
    | some ds =>
      rw [q] at e1; cases e1
      refine lc_imp htg hus hvs ⟨Γ, G, ρ, ds, R, q, fun p xs G' H' s n g hp da => ?_⟩
      have s' := s.frz n g hp
      exact f _ _ H' ((R.stp s').store hO (.lst (SqL.of upd_same) (dpAll_mono (fun a u z => by rw [upd_ne (ne_of_none z g)]; exact z) ds xs da)))
theorem s_setLcO {i : Nat} {y : Str} {py spos : Pos} {elt iter tg : Expr} {ifs : List Expr} {scope : Scope} {own : List (Str × Nat)} {Fs : Fl} {us : List Nat} {g : TG} {tgt : Tgt} {C : Dv → Option Bool} {E : Fd} (hc : X.calm = true) (hN : X.N.Nodup) (hy : X.N[i]? = some y) (hyl : X.env.scope.names.lookup y = some .local) (hl : lsl i O = true) (hO : O' = insK i .lst O)
    (hsw : swapsWith (.ListComp elt [⟨tg, iter, ifs, 0⟩] scope pos) (some (.Name y py)) spos.line X.env = pure true) (hi : PI X tg iter (RI X.K O Fs)) (ok : BlkOk X.N X.env.scope scope own)
    (htg : TgD X.K O g tgt us) (hus : ∀ x, x ∈ us → x ∈ own.map (·.2)) (hvs : (own.map (·.2)).all (fun i => nin i O) = true)
    (hg : ∀ (s : Shared) (H : Hp) (C : Addr) (cl : List (Str × Addr)) (fp : List Addr), PG (X.blk s H scope (compEnvC scope cl C X.env) fp) tg g) (ht : ∀ (s : Shared) (H : Hp) (C' : Addr) (cl : List (Str × Addr)) (fp : List Addr), PTs (X.blk s H scope (compEnvC scope cl C' X.env) fp) ifs (RT X.K O C))
    (he : ∀ (s : Shared) (H : Hp) (C : Addr) (cl : List (Str × Addr)) (fp : List Addr), PE (X.blk s H scope (compEnvC scope cl C X.env) fp) elt (RD X.K O E)) (hs : ∀ x, foldedSetIterable iter X.env x = pure x := by intro _; rfl) :
    PS X (.Assign [.Name y py] (.ListComp elt [⟨tg, iter, ifs, 0⟩] scope pos) spos) (RS X.K W O O' OL (setO i (lcF Fs (own.map (·.2)) tgt C E))) :=
  ps_imp (ps_setLc hc hN hy hyl hsw hi ok hg ht he hs) fun D σ H h => seto_imp hl hO (fun Q h' => lc_imp htg hus hvs h') h
/-! ### x.append(e), x an own list -/
def appS (i : Nat) (F : Fd) : Bs := fun ρ => match dvGet ρ i, F ρ with
  | some (.list ds), some d => if ds.length < 16777216 then some (.nx (ρ.set i (some (.list (ds ++ [d]))))) else none
  | _, _ => none
theorem appS_some {i : Nat} {ρ : Dv} {r : Res} (h : appS i F ρ = some r) : ∃ ds d, dvGet ρ i = some (.list ds) ∧ F ρ = some d ∧ ds.length < 16777216 ∧ r = .nx (ρ.set i (some (.list (ds ++ [d])))) := by
  unfold appS at h
  split at h
  · rename_i ds d e1 e2
    split at h
    · cases h; exact ⟨ds, d, e1, e2, by assumption, rfl⟩
    · cases h
  · cases h
theorem s_app {y : Str} {apos cpos : Pos} (i : Nat) (hi : (i, Kd.lst) ∈ O)
    (hb : PE X (.Call (.Attribute (.Name y pos') "append" apos) [e] [] cpos) (tBM X.K "list" rAppend (tVar i) (tCons (RD X.K O F) tNil)))
    (hs : swapsWith (.Call (.Attribute (.Name y pos') "append" apos) [e] [] cpos) none pos.line X.env = pure false := by rfl) :
    PS X (.Expr (.Call (.Attribute (.Name y pos') "append" apos) [e] [] cpos) pos) (RS X.K W O O OL (appS i F)) := ps_imp (ps_expr hb hs) fun D σ H ⟨Γ, G, ρ, r, R, er, f⟩ => by
  obtain ⟨ds, d, e1, e2, hl, rfl⟩ := appS_some er
  have e1' := dvGet_some e1
  obtain ⟨w, fp, f2, o, n, ch⟩ := R.change hi e1'
  cases o with
  | lst hp da =>
    rename_i p xs
    refine ⟨_, f2, .inl ⟨rfl, _, SqL.of hp⟩, Γ, G, ρ, d, R, e2, fun v G' H' s dv => ?_⟩
    have h5 := s.hh _ _ hp
    have g5 := s.sep p (by rw [hp]; exact fun z => nomatch z) (n p (by simp)).2
    refine ⟨p, xs, v, rfl, rfl, h5, by rw [da.length, line_eq]; exact hl, ?_⟩
    refine f σ G' _ (ch G' H' _ [p] _ s (fun a ha => by rw [List.mem_singleton.mp ha]; exact g5) (.lst upd_same ((dpAll_mono s.gg _ _ da).append (.cons dv .nil))) (fun a ha _ => upd_ne fun z => ha (by simp [z])) fun a ha => .inl ha)

/-! ### loops -/
/-- the base heap with the frozen part -/
def hun (H0 G : Hp) : Hp := fun a => match H0 a with | some o => some o | none => G a
theorem hun_some {H0 G : Hp} {a : Addr} {o : HO} (h : hun H0 G a = some o) : H0 a = some o ∨ (H0 a = none ∧ G a = some o) := by
  unfold hun at h
  cases q : H0 a with
  | none => rw [q] at h; exact .inr ⟨rfl, h⟩
  | some u => rw [q] at h; exact .inl h
def Gh.at (Γ : Gh) (G : Hp) : Gh := ⟨hun Γ.H0 G, G, Γ.op⟩
theorem Rep.rebase {K : PySem.W.Frag} {Γ : Gh} {G H : Hp} {σ : L2.St} {ρ : Dv} (R : Rep K Γ G H O σ ρ) : Rep K (Γ.at G) G H O σ ρ := by
  refine ⟨⟨fun a o e => ?_, Same.refl _, R.gh, fun _ _ e => e⟩, R.len, R.fz, ?_, R.par, R.uq⟩
  · rcases hun_some e with e | ⟨_, e⟩
    · exact R.base.hh a o e
    · exact R.gh a o e
  · obtain ⟨fp, h1, h2⟩ := R.ow
    refine ⟨fp, fun i kd d hi e => ?_, h2⟩
    obtain ⟨v, e1, o, n⟩ := h1 i kd d hi e
    exact ⟨v, e1, o, fun a ha => ⟨by show hun Γ.H0 G a = none; unfold hun; rw [(n a ha).1]; exact (n a ha).2, (n a ha).2⟩⟩
theorem base_back {H0 G0 G H G' H' : Hp} (b : Stp G0 H0 G H) (s : Stp G (hun H0 G) G' H') : Stp G0 H0 G' H' := by
  refine ⟨fun a o e => s.hh a o (by unfold hun; rw [e]), b.gg.trans s.gg, s.gh, fun a n e => ?_⟩
  refine s.sep a (fun z => ?_) (b.sep a n e)
  unfold hun at z
  cases q : H0 a with
  | none => exact n q
  | some u => rw [q] at z; cases z
theorem Rep.back {K : PySem.W.Frag} {Γ : Gh} {G H G' H' : Hp} {σ : L2.St} {ρ : Dv} (b : Stp Γ.G0 Γ.H0 G H) (R : Rep K (Γ.at G) G' H' O σ ρ) : Rep K Γ G' H' O σ ρ := by
  refine ⟨base_back b R.base, R.len, R.fz, ?_, R.par, R.uq⟩
  obtain ⟨fp, h1, h2⟩ := R.ow
  refine ⟨fp, fun i kd d hi e => ?_, h2⟩
  obtain ⟨v, e1, o, n⟩ := h1 i kd d hi e
  refine ⟨v, e1, o, fun a ha => ⟨?_, (n a ha).2⟩⟩
  have z : hun Γ.H0 G a = none := (n a ha).1
  unfold hun at z
  cases q : Γ.H0 a with
  | none => rfl
  | some u => rw [q] at z; cases z
def forGo (tgt : Tgt) (B : Bs) : List PyData → Dv → Option Res
  | [], ρ => some (.nx ρ)
  | d :: ds, ρ => (tgt d ρ).bind fun ρ1 => match B ρ1 with
    | some (.nx ρ') => forGo tgt B ds ρ'
    | some (.ct ρ') => forGo tgt B ds ρ'
    | some (.brk ρ') => some (.nx ρ')
    | some (.ret d ρ') => some (.ret d ρ')
    | some (.exc c ρ') => some (.exc c ρ')
    | none => none
def forS (Fs : Fl) (tgt : Tgt) (B : Bs) : Bs := fun ρ => (Fs ρ).bind fun ds => forGo tgt B ds ρ
theorem s_for {tg iter : Expr} {Fs : Fl} {g : TG} {tgt : Tgt} {us : List Nat} (hp : PassesOwn (model X.prog X.w) X.A X.env X.xe) (hc : X.calm = true) (hi : PI X tg iter (RI X.K O Fs)) (htg : TgD X.K O g tgt us) (hg : PG X tg g) (hb : PSs X body (RS X.K W O O O B))
    (hs : ∀ x, foldedSetIterable iter X.env x = pure x := by intro _; rfl) : PS X (.For tg iter body [] pos) (RS X.K W O O OL (forS Fs tgt B)) := ps_imp (ps_for hp hc hi hg hb hs) fun D σ H ⟨Γ, G, ρ, r, R, er, f⟩ => by
  unfold forS at er
  cases e1 : Fs ρ with
  | none => rw [e1] at er; cases er
  | some ds =>
    rw [e1] at er
    have er : forGo tgt B ds ρ = some r := er
    refine ⟨Γ, G, ρ, ds, R, e1, fun J G1 H1 s1 it len => ?_⟩
    have bs : Stp Γ.G0 Γ.H0 G1 H1 := (R.stp s1).base
    refine ⟨fun i m σ2 H2 => m = ds.length - i ∧ i ≤ ds.length ∧ ∃ G2 ρ2, Rep X.K (Γ.at G1) G2 H2 O σ2 ρ2 ∧ forGo tgt B (ds.drop i) ρ2 = some r, ⟨ds.length, by simp, Nat.zero_le _, G1, ρ, (R.stp s1).rebase, er⟩, ?_⟩
    rintro i m σ2 H2 ⟨rfl, hle, G2, ρ2, R2, el⟩
    by_cases hlt : i < ds.length
    · refine .inr ⟨it.go i G2 H2 R2.base.gg R2.gh hlt, fun σ' H' => i + 1 ≤ ds.length ∧ ∃ G2 ρ2, Rep X.K (Γ.at G1) G2 H' O σ' ρ2 ∧ forGo tgt B (ds.drop (i + 1)) ρ2 = some r, fun σ' H' w => ⟨ds.length - (i + 1), by omega, rfl, w⟩, fun x H3 y => ?_⟩
      obtain ⟨G3, d, s3, hd, dv⟩ := it.yl i G2 H2 x H3 R2.base.gg R2.gh hlt y
      have ed : ds.drop i = d :: ds.drop (i + 1) := by
        rw [List.drop_eq_getElem_cons hlt]
        congr 1
        rw [List.getElem?_eq_getElem hlt] at hd
        exact Option.some.inj hd
      rw [ed] at el
      simp only [forGo] at el
      cases e2 : tgt d ρ2 with
      | none => rw [e2] at el; cases el
      | some ρ3 =>
        rw [e2, Option.bind_some] at el
        refine htg _ G3 H3 _ _ _ x d _ (R2.stp s3) dv e2 fun σ3 R3 _ => ?_
        cases e3 : B ρ3 with
        | none => rw [e3] at el; cases el
        | some z =>
          rw [e3] at el
          refine ⟨_, G3, ρ3, z, R3, e3, ?_⟩
          cases z with
          | nx ρ' => exact fun σ' G' H' R' => ⟨hlt, G', ρ', R', el⟩
          | ct ρ' => exact fun σ' G' H' R' => ⟨hlt, G', ρ', R', el⟩
          | brk ρ' => cases el; exact fun σ' G' H' R' => f σ' G' H' (Rep.back bs R')
          | ret d' ρ' => cases el; exact fun v σ' G' H' Or R' dv => f v σ' G' H' Or (Rep.back bs R') dv
          | exc c ρ' => cases el; exact fun σ' G' H' Or R' => f σ' G' H' Or (Rep.back bs R')
    · have hi' : i = ds.length := by omega
      rw [hi', List.drop_length] at el
      cases el
      exact .inl ⟨by rw [hi']; exact it.st G2 H2 R2.base.gg R2.gh, f σ2 G2 H2 (Rep.back bs R2)⟩
def whGo (C : Dv → Option Bool) (B : Bs) : Nat → Dv → Option Res
  | 0, _ => none
  | n + 1, ρ => match C ρ with
    | some false => some (.nx ρ)
    | some true => match B ρ with
      | some (.nx ρ') => whGo C B n ρ'
      | some (.ct ρ') => whGo C B n ρ'
      | some (.brk ρ') => some (.nx ρ')
      | some (.ret d ρ') => some (.ret d ρ')
      | some (.exc c ρ') => some (.exc c ρ')
      | none => none
    | none => none
theorem s_while {c : Expr} (n : Nat) (hp : PassesOwn (model X.prog X.w) X.A X.env X.xe) (hc : PT X c (RT X.K O C)) (hb : PSs X body (RS X.K W O O O B)) : PS X (.While c body [] pos) (RS X.K W O O OL (whGo C B n)) := ps_imp (ps_while hp hc hb) fun D σ H ⟨Γ, G, ρ, r, R, er, f⟩ => by
  refine ⟨fun m σ H => ∃ G ρ, Rep X.K Γ G H O σ ρ ∧ whGo C B m ρ = some r, ⟨n, G, ρ, R, er⟩, ?_⟩
  rintro m σ2 H2 ⟨G2, ρ2, R2, el⟩
  cases m with
  | zero => cases el
  | succ m =>
    simp only [whGo] at el
    cases e1 : C ρ2 with
    | none => rw [e1] at el; cases el
    | some b =>
      rw [e1] at el
      refine ⟨Γ, G2, ρ2, b, R2, e1, fun G3 H3 s3 => ?_⟩
      cases b with
      | false => cases el; exact iteF (f σ2 G3 H3 (R2.stp s3))
      | true =>
        refine iteT ⟨fun σ' H' => ∃ G ρ, Rep X.K Γ G H' O σ' ρ ∧ whGo C B m ρ = some r, fun σ' H' w => ⟨m, Nat.lt_succ_self m, w⟩, ?_⟩
        cases e3 : B ρ2 with
        | none => rw [e3] at el; cases el
        | some z =>
          rw [e3] at el
          refine ⟨Γ, G3, ρ2, z, R2.stp s3, e3, ?_⟩
          cases z with
          | nx ρ' => exact fun σ' G' H' R' => ⟨G', ρ', R', el⟩
          | ct ρ' => exact fun σ' G' H' R' => ⟨G', ρ', R', el⟩
          | brk ρ' => cases el; exact fun σ' G' H' R' => f σ' G' H' R'
          | ret d' ρ' => cases el; exact fun v σ' G' H' Or R' dv => f v σ' G' H' Or R' dv
          | exc c ρ' => cases el; exact fun σ' G' H' Or R' => f σ' G' H' Or R'

/-! ### defs -/
def spD (K : PySem.W.Frag) (f : List PyData → Option PyData) : Sp := fun vs H Q _ => ∃ G ds d, Same G H ∧ DpAll K G vs ds ∧ f ds = some d ∧ ∀ v G' H', Stp G H G' H' → Dp K G' v d → Q v H'
def env0 (n : Nat) (ds : List PyData) : Dv := ds.map some ++ List.replicate (n - ds.length) none
/-- n slots, k parameters -/
def runF (n k : Nat) (B : Bs) (ds : List PyData) : Option PyData := if ds.length = k then (match B (env0 n ds) with | some (.ret d _) => some d | some (.nx _) => some .none | _ => none) else none
theorem rep_start {K : PySem.W.Frag} {G H : Hp} {N : List Str} {vs : List V} {ds : List PyData} (gh : Same G H) (da : DpAll K G vs ds) (hl : vs.length ≤ N.length) : Rep K ⟨H, G, []⟩ G H [] (L2.start N vs) (env0 N.length ds) := by
  refine ⟨Stp.refl gh, ?_, fun i d _ e => ?_, ⟨fun _ => [], (fun i kd d hi => nomatch hi), (fun i j a _ ha => nomatch ha)⟩, (fun i kd v m => nomatch m), (fun i k k' m => nomatch m)⟩
  · unfold L2.start env0
    simp only [List.length_append, List.length_map, List.length_replicate, da.length]
  · unfold env0 at e
    by_cases h : i < ds.length
    · rw [List.getElem?_append_left (by rw [List.length_map]; exact h), List.getElem?_map] at e
      cases q : ds[i]? with
      | none => rw [q] at e; cases e
      | some d' =>
        rw [q] at e; cases e
        obtain ⟨v, h1, h2⟩ := da.get q
        refine ⟨v, ?_, h2⟩
        unfold L2.start
        rw [List.getElem?_append_left (by rw [List.length_map, da.length]; exact h), List.getElem?_map, h1]
        rfl
    · rw [List.getElem?_append_right (by rw [List.length_map]; omega), List.getElem?_replicate] at e
      split at e <;> cases e
theorem runF_some {n k : Nat} {B : Bs} {ds : List PyData} {d : PyData} (h : runF n k B ds = some d) : ds.length = k ∧ ∃ r, B (env0 n ds) = some r ∧ ((∃ ρ, r = .ret d ρ) ∨ (∃ ρ, r = .nx ρ) ∧ d = .none) := by
  unfold runF at h
  split at h
  · refine ⟨by assumption, ?_⟩
    split at h
    · cases h; exact ⟨_, by assumption, .inl ⟨_, rfl⟩⟩
    · cases h; exact ⟨_, by assumption, .inr ⟨⟨_, rfl⟩, rfl⟩⟩
    · cases h
  · cases h
theorem fn_d {P : Program} {w : World} {K : PySem.W.Frag} {mg : Str → Option Value} {base : Heap} {x qual : Str} {st : Stmt} {f : Addr} {fd : FuncData} {N ps : List Str} {k n np : Nat} {B : Bs} (F : Fun K x qual st f fd) (S : FnScope N ps (defScope st)) (hn : N.length = n) (hnp : ps.length = np) (hle : np ≤ n)
    (hb : ∀ (cdv : Value) (A : Around) (outer : List Env) (s : Shared) (H : Hp) (E : XK), Room k (A.deeper (envOfC qual (defScope st) s.heap.objs.size f cdv)) →
      ∃ O' OL, PSs (cxOf CX0 P w K mg base N qual (defScope st) f cdv A outer s H E).nox (defBody st) (RS K E0 [] O' OL B)) : FnOk P w K mg base CX0 (k + 1) f fd ps (spD K (runF n np B)) := by
  refine F.ok S (fun vs H Q E h => ?_) (fun cdv A outer s H vs Q E hr h => ?_)
  · obtain ⟨G, ds, d, gh, da, ef, _⟩ := h
    rw [da.length, (runF_some ef).1, hnp]
  · obtain ⟨G, ds, d, gh, da, ef, q⟩ := h
    obtain ⟨h1, r, h2, h3⟩ := runF_some ef
    obtain ⟨O', OL, hbody⟩ := hb cdv A outer s H E hr
    refine ⟨_, hbody, ⟨H, G, []⟩, G, env0 n ds, r, ?_, h2, ?_⟩
    · rw [← hn]
      exact rep_start gh da (by rw [da.length, h1]; omega)
    · rcases h3 with ⟨ρ, rfl⟩ | ⟨⟨ρ, rfl⟩, rfl⟩
      · exact fun v σ G' H' Or R dv => q v G' H' R.base dv
      · exact fun σ G' H' R => q _ G' H' R.base .non
theorem FnD.imp {P : Program} {w : World} {K : PySem.W.Frag} {mg : Str → Option Value} {base : Heap} {CX : CXT} {k : Nat} {f : Addr} {fd : FuncData} {ps : List Str} {g g' : List PyData → Option PyData} (F : FnOk P w K mg base CX k f fd ps (spD K g)) (h : ∀ ds d, g' ds = some d → g ds = some d) : FnOk P w K mg base CX k f fd ps (spD K g') :=
  F.imp fun vs H Q E ⟨G, ds, d, gh, da, ef, q⟩ => ⟨G, ds, d, gh, da, h ds d ef, q⟩
section
variable {f : Addr} {fd : FuncData} {ps : List Str} {g : List PyData → Option PyData} {k : Nat} {x : Str} {p : Pos} {es : List Expr}
theorem d_call {CX : CXT} {E : XK} (G : FnOk X.prog X.w X.K X.mg X.base CX k f fd ps (spD X.K g)) (hr : Room k X.A) (hg : Gl X x) (hm : X.mg x = some (.ref f)) (hk : PySem.W.keepIn X.K (.ref f) = true) (hb : Binds X.K fd ps []) (hx : Passes CX X E)
    (ha : PA X (e :: es) (RA X.K O L)) (hdb : (x == ("__debug__" : Str)) = false := by decide) (he : starEach (e :: es) X.env = (false, eval e X.env) :: starEach es X.env := by rfl) (hpl : (backTo pos (starEach es X.env)).any (·.1) = false := by rfl) :
    PE X (.Call (.Name x p) (e :: es) [] pos) (RD X.K O (fL g L)) := pe_imp (pe_call G hr hg hm hk hb .nil hx ha hdb he hpl) fun σ H Q ⟨Γ, G, ρ, d, R, ef, q⟩ => by
  obtain ⟨ds, e1, e2⟩ := fL_some ef
  exact ⟨Γ, G, ρ, ds, R, e1, fun vs G1 H1 s1 da => ⟨G1, ds, d, s1.gh, by rw [List.append_nil]; exact da, e2, fun v G' H' s dv => q v G' H' (s1.trans s) dv⟩⟩
end
end
end Dat
open PySem PySem.Spec PyProof.Rows L2
namespace Dat
/-! ### what stands at the top -/
structure Here (K : PySem.W.Frag) (mg : Str → Option Value) (x : Str) (st : Stmt) (ps : List Str) (f : Addr) (fd : FuncData) : Prop where
  fn : Fun K x x st f fd
  at_ : mg x = some (.ref f)
  bd : Binds K fd ps []
/-- a def that is known by its function over data -/
def Kn (P : Program) (w : World) (K : PySem.W.Frag) (mg : Str → Option Value) (base : Heap) (x : Str) (k : Nat) (ps : List Str) (g : List PyData → Option PyData) : Prop :=
  ∃ f fd, FnOk P w K mg base CX0 k f fd ps (spD K g) ∧ mg x = some (.ref f) ∧ PySem.W.keepIn K (.ref f) = true ∧ Binds K fd ps []
section
variable {P : Program} {w : World} {K : PySem.W.Frag} {mg : Str → Option Value} {base : Heap} {x : Str} {st : Stmt} {ps : List Str} {f : Addr} {fd : FuncData} {k : Nat} {g g' : List PyData → Option PyData}
theorem kd_of (h : Here K mg x st ps f fd) (F : FnOk P w K mg base CX0 k f fd ps (spD K g)) : Kn P w K mg base x k ps g := ⟨f, fd, F, h.at_, h.fn.kp, h.bd⟩
theorem Kn.imp (h : Kn P w K mg base x k ps g) (q : ∀ ds d, g' ds = some d → g ds = some d) : Kn P w K mg base x k ps g' := by
  obtain ⟨f, fd, F, a, b, c⟩ := h
  exact ⟨f, fd, FnD.imp F q, a, b, c⟩
theorem Kn.mono {j : Nat} (h : Kn P w K mg base x k ps g) (hj : k ≤ j) : Kn P w K mg base x j ps g := by
  obtain ⟨f, fd, F, a, b, c⟩ := h
  exact ⟨f, fd, F.mono hj, a, b, c⟩
/-- a def of which nothing is said -/
theorem Kn.zero (h : Here K mg x st ps f fd) : Kn P w K mg base x k ps (fun _ => none) :=
  ⟨f, fd, ⟨fun vs H Q E q => (by obtain ⟨_, _, _, _, _, z, _⟩ := q; cases z), fun A outer s H args us vs Q E hr he hb hv q => (by obtain ⟨_, _, _, _, _, z, _⟩ := q; cases z)⟩, h.at_, h.fn.kp, h.bd⟩
theorem hu200 {A : Around} (hr : Room k A) : A.units + 200 < cLine := by have := hr.un; omega
theorem here_mk {h : Heap} (X : K.In h) (G : h.Ns mainGlobals mg) {oc : Value} {od an : Option Addr} {osl : Array (Option Value)} {kV doc pm cdv ct : Value}
    (a : PySem.W.nsIn K mainGlobals x = some (some (.ref f))) (l : K.lookup f = some ⟨oc, od, .func (PySem.W.fnOf x x (defArgs st) (defBody st) (defScope st) .none kV doc pm an cdv ct), osl⟩) (c : PySem.W.codeIn K cdv x = true) (k : PySem.W.keepIn K (.ref f) = true)
    (b : ∀ (kV doc pm : Value) (an : Option Addr) (cdv ct : Value) (us : List Value), us.length = ps.length → bindArgs (PySem.W.fnOf x x (defArgs st) (defBody st) (defScope st) .none kV doc pm an cdv ct) ⟨us, []⟩ = pure (ps.zip us)) :
    Here K mg x st ps f (PySem.W.fnOf x x (defArgs st) (defBody st) (defScope st) .none kV doc pm an cdv ct) :=
  have F : Fun K x x st f (PySem.W.fnOf x x (defArgs st) (defBody st) (defScope st) .none kV doc pm an cdv ct) := fun_mk (st := st) l c k
  ⟨F, PySem.W.mg_of X G a, F.binds b⟩
end
section
variable {X : Cx} {e a b : Expr} {es : List Expr} {pos p : Pos} {O : Os} {F F' : Fd} {L : Fl} {ps : List Str} {g : List PyData → Option PyData} {k j : Nat} {x : Str}
theorem d_callK (D : Kn X.prog X.w X.K X.mg X.base x k ps g) (hr : Room j X.A) (hj : k ≤ j) (hx : Passes CX0 X E0) (hg : Gl X x) (ha : PA X (e :: es) (RA X.K O L)) (hdb : (x == ("__debug__" : Str)) = false := by decide)
    (he : starEach (e :: es) X.env = (false, eval e X.env) :: starEach es X.env := by rfl) (hpl : (backTo pos (starEach es X.env)).any (·.1) = false := by rfl) : PE X (.Call (.Name x p) (e :: es) [] pos) (RD X.K O (fL g L)) := by
  obtain ⟨f, fd, G, a, b, c⟩ := D
  exact d_call (G.mono hj) hr hg a b c hx ha hdb he hpl
/-- the items of a list or of a tuple -/
def seqA (F : Fd) : Fl := fun ρ => (F ρ).bind fun d => match d with | .list xs => some xs | .tuple xs => some xs | _ => none
theorem i_seq {tg : Expr} (h : PE X e (RD X.K O F)) : PI X tg e (RI X.K O (seqA F)) := ⟨fun pins s σ H R I ⟨Γ, G, ρ, ds, Rp, ef, q⟩ => by
  unfold seqA at ef
  cases e1 : F ρ with
  | none => rw [e1] at ef; cases ef
  | some d =>
    rw [e1] at ef
    cases d with
    | list xs => cases ef; exact (i_list h).run pins s σ H R I ⟨Γ, G, ρ, ds, Rp, by unfold seqF; rw [e1]; rfl, q⟩
    | tuple xs => cases ef; exact (i_tup h).run pins s σ H R I ⟨Γ, G, ρ, ds, Rp, by unfold seqT; rw [e1]; rfl, q⟩
    | none => cases ef
    | bool _ => cases ef
    | int _ => cases ef
    | str _ => cases ef
    | dict _ => cases ef⟩
/-- a list's slice, or a tuple's -/
def dSl (d : PyData) (lo hi : Option Int) : Option PyData := match d with
  | .list xs => some (.list (cutD xs lo hi))
  | .tuple xs => if ¬ (HT.sIx xs.length 0 lo = 0 ∧ HT.sIx xs.length xs.length hi = xs.length) then some (.tuple (cutD xs lo hi)) else none
  | _ => none
theorem d_sl {lo hi : Option Expr} {p2 : Pos} {P P' : Dv → Option (Option Int)} (ha : PE X a (RB X.K O F)) (hl : PO X lo (RP X.K O P)) (hu : PO X hi (RP X.K O P')) : PE X (.Subscript a (.Slice lo hi none p2) pos) (RD X.K O (slF dSl F P P')) :=
  ⟨fun pins s σ H Q I ⟨Γ, G, ρ, d, R, ef, q⟩ => by
    obtain ⟨dx, lo, hi, e1, e2, e3, e4⟩ := slF_some ef
    cases dx with
    | list xs =>
      refine (o_d (o_slL ha hl hu)).run pins s σ H Q I ⟨Γ, G, ρ, d, R, ?_, q⟩
      unfold lstF slF
      rw [e1, e2, e3]
      exact e4
    | tuple xs =>
      refine (d_slT ha hl hu).run pins s σ H Q I ⟨Γ, G, ρ, d, R, ?_, q⟩
      unfold slF
      rw [e1, e2, e3]
      exact e4
    | none => cases e4
    | bool _ => cases e4
    | int _ => cases e4
    | str _ => cases e4
    | dict _ => cases e4⟩
end
/-- the law's promise, from its function over data -/
theorem law_sp {K : PySem.W.Frag} {f : List PyData → Option PyData} (h : ∀ ns : List Int, ns.length ≤ 63 → f [.list (ns.map .int)] = some (.bool true)) {H : Hp} {a : Addr} {ns : List Int} (hl : ns.length ≤ 63) (hS : SqL K H a (ns.map V.int)) (Q : VK) (E : XK) (hq : ∀ H', Q (.bl true) H') : spD K f [.ref a] H Q E := by
  have da : ∀ ms : List Int, DpAll K H (ms.map V.int) (ms.map PyData.int) := fun ms => by
    induction ms with
    | nil => exact .nil
    | cons m ms ih => exact .cons (.int m) ih
  exact ⟨H, _, _, Same.refl _, .cons (.lst hS (da ns)) .nil, h ns hl, fun v G' H' s dv => by cases dv; exact hq H'⟩
end Dat
open PySem PySem.Spec PyProof.Rows L2
namespace Dat
section
variable {W : XK} {X : Cx} {e a b : Expr} {es : List Expr} {pos pos' p : Pos} {O O' OL : Os} {F F' : Fd} {L : Fl}
/-! ### a module's whole number -/
theorem d_glob {x : Str} {n : Int} (hg : Gl X x) (h : ∃ t, X.mg x = some (.int n t)) (hd : (x == ("__debug__" : Str)) = false := by decide) : PE X (.Name x pos) (RD X.K O (cF (.int n))) := by
  obtain ⟨t, h⟩ := h
  exact pe_imp (pe_glob (v := .int n) hg h ⟨t, rfl⟩ hd) fun σ H Q ⟨Γ, G, ρ, d, R, ef, q⟩ => by
    cases ef; exact q _ G H (Stp.refl R.gh) (.int n)
/-! ### what is only looked at whole -/
def RX (K : PySem.W.Frag) (O : Os) (F : Fd) : TE := fun σ H Q => ∃ Γ G ρ d, Rep K Γ G H O σ ρ ∧ F ρ = some d ∧ ∀ v G' H', Stp G H G' H' → Dp K H' v d → Q v H'
theorem x_b (h : PE X e (RB X.K O F)) : PE X e (RX X.K O F) := pe_imp h fun σ H Q ⟨Γ, G, ρ, d, R, ef, q⟩ => ⟨Γ, G, ρ, d, R, ef, fun v G' H' s b => q v G' H' s (b.dp s.gh)⟩
theorem x_var (i : Nat) (h : PE X e (tVar i)) (hi : lsl i O = true := by rfl) : PE X e (RX X.K O (vF i)) := pe_imp h fun σ H Q ⟨Γ, G, ρ, d, R, ef, q⟩ => by
  obtain ⟨v, h1, h2⟩ := R.bx (i := i) hi ef
  exact ⟨v, h1, q v G H (Stp.refl R.gh) h2⟩
def r2X (K : PySem.W.Frag) (g : PyData → PyData → Option PyData) : R2 := fun x y H Q => ∃ dx dy k, Dp K H x dx ∧ Dp K H y dy ∧ g dx dy = some (.bool k) ∧ Q (.bl k) H
theorem x_dEq (hu : X.A.units + 200 < cLine) : OpR X (compareOp .Eq) (r2X X.K dEq) := by
  intro pins s σ H x y v u Q I rx ry ⟨dx, dy, k, hx, hy, eg, q⟩
  unfold dEq at eg
  split at eg
  · rename_i hs
    cases eg
    obtain ⟨as, r1⟩ := Dp.reads I dx x v hx rx
    obtain ⟨bs, r2⟩ := Dp.reads I dy y u hy ry
    exact SeqAt.eq_plain r1 r2 (dp_plain _ _ hx) (dp_plain _ _ hy) (shal_min hs hu) ⟨.bl _, H, I, rfl, q⟩
  · cases eg
theorem x_dNe (hu : X.A.units + 200 < cLine) : OpR X (compareOp .NotEq) (r2X X.K dNe) := by
  intro pins s σ H x y v u Q I rx ry ⟨dx, dy, k, hx, hy, eg, q⟩
  unfold dNe at eg
  split at eg
  · rename_i hs
    cases eg
    obtain ⟨as, r1⟩ := Dp.reads I dx x v hx rx
    obtain ⟨bs, r2⟩ := Dp.reads I dy y u hy ry
    exact SeqAt.ne_plain r1 r2 (dp_plain _ _ hx) (dp_plain _ _ hy) (shal_min hs hu) ⟨.bl _, H, I, rfl, q⟩
  · cases eg
theorem topX_imp {g : PyData → PyData → Option PyData} {σ : L2.St} {H : Hp} {Q : Bool → Hp → Prop} (h : RT X.K O (asB (f2 g F F')) σ H Q) : tOp (r2X X.K g) (RX X.K O F) (RX X.K O F') σ H (fun x H' => ∃ k, x = .bl k ∧ Q k H') := by
  obtain ⟨Γ, G, ρ, b, R, eb, q⟩ := h
  obtain ⟨dx, dy, e1, e2, e3⟩ := f2_some (asB_some eb)
  exact ⟨Γ, G, ρ, dx, R, e1, fun x G1 H1 s1 bx => ⟨Γ, G1, ρ, dy, R.stp s1, e2, fun y G2 H2 s2 y2 => ⟨dx, dy, b, dp_mono s2.hh _ _ bx, y2, e3, b, rfl, q G2 H2 (s1.trans s2)⟩⟩⟩
theorem t_cmpX {op : CmpOp} {g : PyData → PyData → Option PyData} (ho : OpR X (compareOp op) (r2X X.K g)) (ha : PE X a (RX X.K O F)) (hb : PE X b (RX X.K O F')) (hm : behindInMarks op b = false) : PT X (.Compare a [op] [b] pos) (RT X.K O (asB (f2 g F F'))) :=
  pt_imp (pt_cmpR ho ha hb hm) fun σ H Q h => topX_imp h
/-! ### a list of own lists -/
theorem s_lol0 {i : Nat} {x : Str} (hN : X.N.Nodup) (hi : X.N[i]? = some x) (hx : Loc X.env.scope x) (hl : lsl i O = true) (hO : O' = insK i .lol O) (hs : swapsWith (.List [] p) (some (.Name x pos')) pos.line X.env = pure false := by rfl) (hf : X.fn x = true ∨ X.env.scope.names.lookup x = some .local := by first | exact .inl rfl | exact .inr rfl | assumption) :
    PS X (.Assign [.Name x pos'] (.List [] p) pos) (RS X.K W O O' OL (setO i (few nilA))) := ps_imp (ps_set hN hi hx (pe_lst pa_nil) hs hf) fun D σ H ⟨Γ, G, ρ, r, R, er, f⟩ => by
  obtain ⟨d, e1, rfl⟩ := setS_some er
  cases e1
  refine ⟨Nat.zero_le _, fun q hq => ?_⟩
  exact f _ G _ (by rw [hO]; exact R.storeK (Stp.new R.gh hq) hl (.lol (qs := []) upd_same .nil (by simp)) fun a ha => by rw [List.mem_singleton.mp ha]; exact ⟨hq, R.gh.free hq⟩)
def lolNewS (i : Nat) : Bs := fun ρ => match dvGet ρ i with
  | some (.list ds) => if ds.length < 16777216 then some (.nx (ρ.set i (some (.list (ds ++ [.list []]))))) else none
  | _ => none
theorem lolNewS_some {i : Nat} {ρ : Dv} {r : Res} (h : lolNewS i ρ = some r) : ∃ ds, dvGet ρ i = some (.list ds) ∧ ds.length < 16777216 ∧ r = .nx (ρ.set i (some (.list (ds ++ [.list []])))) := by
  unfold lolNewS at h
  split at h
  · split at h
    · cases h; exact ⟨_, by assumption, by assumption, rfl⟩
    · cases h
  · cases h
theorem Lols.length {K : PySem.W.Frag} {G H : Hp} : ∀ {qs : List Addr} {ds : List PyData}, Lols K G H qs ds → qs.length = ds.length
  | _, _, .nil => rfl
  | _, _, .cons _ _ t => by simp only [List.length_cons, Lols.length t]
theorem Lols.append {K : PySem.W.Frag} {G H : Hp} : ∀ {qs rs : List Addr} {ds es : List PyData}, Lols K G H qs ds → Lols K G H rs es → Lols K G H (qs ++ rs) (ds ++ es)
  | _, _, _, _, .nil, l => l
  | _, _, _, _, .cons h d t, l => .cons h d (Lols.append t l)
theorem Lols.split {K : PySem.W.Frag} {G H : Hp} : ∀ {ds es : List PyData} {qs : List Addr}, Lols K G H qs (ds ++ es) → ∃ rs ts, qs = rs ++ ts ∧ Lols K G H rs ds ∧ Lols K G H ts es
  | [], _, qs, l => ⟨[], qs, rfl, .nil, l⟩
  | d :: ds, es, _, l => by
    cases l with
    | cons h da t =>
      obtain ⟨rs, ts, rfl, l1, l2⟩ := Lols.split t
      exact ⟨_ :: rs, ts, rfl, .cons h da l1, l2⟩
/-- a new empty list behind it -/
theorem s_lolNew {y : Str} {apos cpos : Pos} (i : Nat) (hi : (i, Kd.lol) ∈ O)
    (hb : PE X (.Call (.Attribute (.Name y pos') "append" apos) [.List [] p] [] cpos) (tBM X.K "list" rAppend (tVar i) (tCons (tLst tNil) tNil)))
    (hs : swapsWith (.Call (.Attribute (.Name y pos') "append" apos) [.List [] p] [] cpos) none pos.line X.env = pure false := by rfl) :
    PS X (.Expr (.Call (.Attribute (.Name y pos') "append" apos) [.List [] p] [] cpos) pos) (RS X.K W O O OL (lolNewS i)) := ps_imp (ps_expr hb hs) fun D σ H ⟨Γ, G, ρ, r, R, er, f⟩ => by
  obtain ⟨ds, e1, hl, rfl⟩ := lolNewS_some er
  obtain ⟨w, fp, f2, o, n, ch⟩ := R.change hi (dvGet_some e1)
  cases o with
  | lol hp l nd =>
    rename_i q qs
    refine ⟨_, f2, .inl ⟨rfl, _, SqL.of hp⟩, Nat.zero_le _, fun c hc => ?_⟩
    have nqc : q ≠ c := ne_of_none hp hc
    refine ⟨q, _, _, rfl, rfl, by rw [upd_ne nqc]; exact hp, by rw [List.length_map, l.length, line_eq]; exact hl, ?_⟩
    have nc : c ∉ qs := fun z => l.here c z hc
    have nq : q ∉ qs := (List.nodup_cons.mp nd).1
    refine f σ G _ (ch G (upd H c (.lst [])) _ (q :: (qs ++ [c])) _ (Stp.new R.gh hc) (fun a ha => (n a ha).2) (.lol ?_ ?_ ?_) (fun a ha _ => upd_ne fun z => ha (by simp [z])) fun a ha => ?_)
    · rw [upd_same]; simp
    · refine ((l.frame (Same.refl _) fun a ha => ?_)).append (.cons ?_ .nil .nil)
      · rw [upd_ne (fun z => nq (by rw [← z]; exact ha)), upd_ne (fun z => nc (by rw [← z]; exact ha))]
      · rw [upd_ne (Ne.symm nqc), upd_same]
    · rw [List.nodup_cons, List.mem_append, List.nodup_append]
      refine ⟨fun z => ?_, (List.nodup_cons.mp nd).2, by simp, fun a ha b hb => ?_⟩
      · rcases z with z | z
        · exact nq z
        · exact nqc (List.mem_singleton.mp z)
      · rw [List.mem_singleton.mp hb]; exact fun z => nc (by rw [← z]; exact ha)
    · rcases List.mem_cons.mp ha with rfl | ha
      · exact .inl (by simp)
      · rcases List.mem_append.mp ha with ha | ha
        · exact .inl (by simp [ha])
        · rw [List.mem_singleton.mp ha]; exact .inr ⟨hc, R.gh.free hc⟩
/-- x = x + [[]] -/
theorem s_lolCat {i : Nat} {x : Str} {p1 p2 p3 : Pos} (hN : X.N.Nodup) (hi : X.N[i]? = some x) (hx : Loc X.env.scope x) (hO : (i, Kd.lol) ∈ O) (hv : PE X (.Name x p1) (tVar i))
    (hs : swapsWith (.BinOp (.Name x p1) .Add (.List [.List [] p2] p3) p) (some (.Name x pos')) pos.line X.env = pure false := by rfl) (hf : X.fn x = true ∨ X.env.scope.names.lookup x = some .local := by first | exact .inl rfl | exact .inr rfl | assumption)
    (hst : starEach [.List [] p2] X.env = (false, eval (.List [] p2) X.env) :: starEach [] X.env := by rfl) :
    PS X (.Assign [.Name x pos'] (.BinOp (.Name x p1) .Add (.List [.List [] p2] p3) p) pos) (RS X.K W O O OL (lolNewS i)) :=
  ps_imp (ps_set hN hi hx (pe_op op_cat hv (pe_lst (pa_cons (pe_lst pa_nil) pa_nil hst))) hs hf) fun D σ H ⟨Γ, G, ρ, r, R, er, f⟩ => by
  obtain ⟨ds, e1, hl, rfl⟩ := lolNewS_some er
  have e1' := dvGet_some e1
  obtain ⟨w, fp, f2, o, n, ch⟩ := R.changeV hO e1'
  cases o with
  | lol hp l nd =>
    rename_i q qs
    refine ⟨_, f2, Nat.zero_le _, fun c hc => ⟨by show 1 ≤ sizeLine; decide, fun c2 hc2 => ?_⟩⟩
    have hc2' : H c2 = none := (same_new hc).free hc2
    have n12 : c2 ≠ c := fun z => by rw [z, upd_same] at hc2; cases hc2
    have nqc : q ≠ c := ne_of_none hp hc
    have nqc2 : q ≠ c2 := ne_of_none hp hc2'
    refine ⟨q, c2, _, _, rfl, rfl, by rw [upd_ne nqc2, upd_ne nqc]; exact hp, upd_same, by rw [List.length_map, l.length, line_eq]; show ds.length + 1 ≤ _; omega, fun c3 hc3 => ?_⟩
    have hc3' : H c3 = none := ((same_new hc).trans (same_new hc2)).free hc3
    have n31 : c3 ≠ c := fun z => by rw [z, upd_ne (Ne.symm n12), upd_same] at hc3; cases hc3
    have n32 : c3 ≠ c2 := fun z => by rw [z, upd_same] at hc3; cases hc3
    have nc : c ∉ qs := fun z => l.here c z hc
    have nc2 : c2 ∉ qs := fun z => l.here c2 z hc2'
    have nc3 : c3 ∉ qs := fun z => l.here c3 z hc3'
    have s1 := Stp.new (o := .lst []) R.gh hc
    have s2 := Stp.new (o := .lst [V.ref c]) s1.gh hc2
    have s3 := Stp.new (o := .lst (qs.map V.ref ++ [V.ref c])) s2.gh hc3
    have st := (s1.trans s2).trans s3
    -- the old list is forgotten, its lists stand in the new one
    refine f _ G _ ?_
    have own : Own X.K G (upd (upd (upd H c (.lst [])) c2 (.lst [V.ref c])) c3 (.lst (qs.map V.ref ++ [V.ref c]))) .lol (.ref c3) (c3 :: (qs ++ [c])) (.list (ds ++ [.list []])) := by
      refine .lol (by rw [upd_same]; simp) (((l.frame (Same.refl _) fun a ha => ?_)).append (.cons ?_ .nil .nil)) ?_
      · rw [upd_ne (fun z => nc3 (by rw [← z]; exact ha)), upd_ne (fun z => nc2 (by rw [← z]; exact ha)), upd_ne (fun z => nc (by rw [← z]; exact ha))]
      · rw [upd_ne (Ne.symm n31), upd_ne (Ne.symm n12), upd_same]
      · rw [List.nodup_cons, List.mem_append, List.nodup_append]
        refine ⟨fun z => ?_, (List.nodup_cons.mp nd).2, by simp, fun a ha b hb => ?_⟩
        · rcases z with z | z
          · exact nc3 z
          · exact n31 (List.mem_singleton.mp z)
        · rw [List.mem_singleton.mp hb]; exact fun z => nc (by rw [← z]; exact ha)
    refine ch G _ _ (.ref c3) (c3 :: (qs ++ [c])) _ st (fun a ha => (n a ha).2) (.inl rfl) own (fun _ _ _ => rfl) fun a ha => ?_
    rcases List.mem_cons.mp ha with rfl | ha
    · exact .inr ⟨hc3', R.gh.free hc3'⟩
    · rcases List.mem_append.mp ha with ha | ha
      · exact .inl (by simp [ha])
      · rw [List.mem_singleton.mp ha]; exact .inr ⟨hc, R.gh.free hc⟩
/-- x[-1].append(e) -/
def lolAppS (i : Nat) (F : Fd) : Bs := fun ρ => match dvGet ρ i, F ρ with
  | some (.list ds), some d => match ds.getLast? with
    | some (.list es) => if es.length < 16777216 then some (.nx (ρ.set i (some (.list (ds.dropLast ++ [.list (es ++ [d])]))))) else none
    | _ => none
  | _, _ => none
theorem lolAppS_some {i : Nat} {ρ : Dv} {r : Res} (h : lolAppS i F ρ = some r) : ∃ ds es d, dvGet ρ i = some (.list (ds ++ [.list es])) ∧ F ρ = some d ∧ es.length < 16777216 ∧ r = .nx (ρ.set i (some (.list (ds ++ [.list (es ++ [d])])))) := by
  unfold lolAppS at h
  split at h
  · rename_i ds d e1 e2
    split at h
    · rename_i es e3
      split at h
      · cases h
        obtain ⟨l, el⟩ := List.getLast?_eq_some_iff.mp e3
        subst el
        exact ⟨l, es, d, e1, e2, by assumption, by simp⟩
      · cases h
    · cases h
  · cases h
theorem s_lolApp {apos cpos : Pos} {o : Expr} (i : Nat) (hi : (i, Kd.lol) ∈ O)
    (hb : PE X (.Call (.Attribute o "append" apos) [e] [] cpos) (tBM X.K "list" rAppend (tOp (rIxL X.K) (tVar i) (tUn (rU fun i => .int (-i)) (tC (.int 1)))) (tCons (RD X.K O F) tNil)))
    (hs : swapsWith (.Call (.Attribute o "append" apos) [e] [] cpos) none pos.line X.env = pure false := by rfl) :
    PS X (.Expr (.Call (.Attribute o "append" apos) [e] [] cpos) pos) (RS X.K W O O OL (lolAppS i F)) := ps_imp (ps_expr hb hs) fun D σ H ⟨Γ, G, ρ, r, R, er, f⟩ => by
  obtain ⟨ds, es, d, e1, e2, hl, rfl⟩ := lolAppS_some er
  obtain ⟨w, fp, f2, o, n, ch⟩ := R.change hi (dvGet_some e1)
  cases o with
  | lol hp l nd =>
    rename_i q qs
    obtain ⟨rs, ts, rfl, l1, l2⟩ := Lols.split l
    cases l2 with
    | cons hq da t =>
      cases t
      rename_i c xs
      refine ⟨_, f2, 1, rfl, q, _, _, .ref c, rfl, rfl, SqL.of hp, by simp only [List.map_append, List.map_cons, List.map_nil]; exact atI_last _ _, .inl ⟨rfl, _, SqL.of hq⟩, Γ, G, ρ, d, R, e2, fun v G' H' s dv => ?_⟩
      have h5 := s.hh _ _ hq
      have h6 := s.hh _ _ hp
      refine ⟨c, xs, v, rfl, rfl, h5, by rw [da.length, line_eq]; exact hl, ?_⟩
      obtain ⟨nq, nds⟩ := List.nodup_cons.mp nd
      rw [List.nodup_append] at nds
      have gn : ∀ a, a ∈ q :: (rs ++ [c]) → G' a = none := fun a ha => s.sep a ((Own.lol hp l nd).here a ha) (n a ha).2
      have nqc : q ≠ c := fun z => nq (by simp [z])
      refine f σ G' _ (ch G' H' _ (q :: (rs ++ [c])) _ s gn (.lol (by rw [upd_ne nqc]; exact h6) ((l1.frame s.gg fun a ha => ?_).append (.cons upd_same ((dpAll_mono s.gg _ _ da).append (.cons dv .nil)) .nil)) nd) (fun a ha _ => upd_ne fun z => ha (by simp [z])) fun a ha => .inl ha)
      have nac : a ≠ c := nds.2.2 a ha c (by simp)
      rw [upd_ne nac]
      cases q2 : H a with
      | none => exact absurd q2 (l1.here a ha)
      | some u => exact s.hh a u q2
end
end Dat
open PySem PySem.Spec PyProof.Rows L2
namespace Dat
/-! ### evaluating -/
section
variable {ρ : Dv} {F F' F'' : Fd} {L : Fl} {B B' : Bs} {C C' : Dv → Option Bool} {i : Nat}
@[simp] theorem e_seqS : seqS B B' ρ = (match B ρ with | some (.nx ρ') => B' ρ' | r => r) := rfl
@[simp] theorem e_setS : setS i F ρ = (F ρ).map fun d => .nx (ρ.set i (some d)) := rfl
@[simp] theorem e_setO : setO i L ρ = (L ρ).map fun d => .nx (ρ.set i (some (.list d))) := by
  unfold setO setS lstF; cases L ρ <;> rfl
@[simp] theorem e_ifS : ifS C B B' ρ = (match C ρ with | some true => B ρ | some false => B' ρ | none => none) := rfl
@[simp] theorem e_nopS : nopS ρ = some (.nx ρ) := rfl
@[simp] theorem e_retS : retS F ρ = (F ρ).map fun d => .ret d ρ := rfl
@[simp] theorem e_retN : retN ρ = some (.ret .none ρ) := rfl
@[simp] theorem e_exS : exS F ρ = (F ρ).map fun _ => .nx ρ := rfl
@[simp] theorem e_ctS : ctS ρ = some (.ct ρ) := rfl
@[simp] theorem e_brkS : brkS ρ = some (.brk ρ) := rfl
@[simp] theorem e_f2 {g : PyData → PyData → Option PyData} : f2 g F F' ρ = (F ρ).bind fun x => (F' ρ).bind fun y => g x y := rfl
@[simp] theorem e_f1 {g : PyData → Option PyData} : f1 g F ρ = (F ρ).bind g := rfl
@[simp] theorem e_vF : vF i ρ = (ρ[i]?).join := rfl
@[simp] theorem e_cF {d : PyData} : cF d ρ = some d := rfl
@[simp] theorem e_asB : asB F ρ = (F ρ).bind fun d => match d with | .bool b => some b | _ => none := rfl
@[simp] theorem e_notT : notT C ρ = (C ρ).map (!·) := rfl
@[simp] theorem e_andT : andT C C' ρ = (match C ρ with | some true => C' ρ | some false => some false | none => none) := rfl
@[simp] theorem e_orT : orT C C' ρ = (match C ρ with | some true => some true | some false => C' ρ | none => none) := rfl
@[simp] theorem e_blF : blF C ρ = (C ρ).map .bool := rfl
@[simp] theorem e_andF : andF F F' ρ = (match F ρ with | some (.bool true) => F' ρ | some (.bool false) => some (.bool false) | _ => none) := rfl
@[simp] theorem e_orF : orF F F' ρ = (match F ρ with | some (.bool true) => some (.bool true) | some (.bool false) => F' ρ | _ => none) := rfl
@[simp] theorem e_ifF : ifF C F F' ρ = (match C ρ with | some true => F ρ | some false => F' ρ | none => none) := rfl
@[simp] theorem e_fL {α : Type} {g : List PyData → Option α} : fL g L ρ = (L ρ).bind g := rfl
@[simp] theorem e_consA : consA F L ρ = (F ρ).bind fun d => (L ρ).map fun ds => d :: ds := rfl
@[simp] theorem e_nilA : nilA ρ = some [] := rfl
@[simp] theorem e_tupF : tupF L ρ = (L ρ).bind fun ds => if ds.length ≤ 1000 then some (.tuple ds) else none := by
  unfold tupF few
  cases L ρ with
  | none => rfl
  | some ds => simp only [Option.bind_some]; split <;> rfl
@[simp] theorem e_few : few L ρ = (L ρ).bind fun ds => if ds.length ≤ 1000 then some ds else none := rfl
@[simp] theorem e_lstF : lstF L ρ = (L ρ).map .list := rfl
@[simp] theorem e_chF {g g' : PyData → PyData → Option PyData} : chF g g' F F' F'' ρ = (match f2 g F F' ρ with
  | some (.bool true) => f2 g' F' F'' ρ
  | some (.bool false) => some (.bool false)
  | _ => none) := rfl
@[simp] theorem e_someP : someP F ρ = (F ρ).bind fun d => match d with | .int i => some (some i) | _ => none := by
  unfold someP asI
  cases F ρ with
  | none => rfl
  | some d => cases d <;> rfl
@[simp] theorem e_noP : noP ρ = some none := rfl
@[simp] theorem e_slF {α : Type} {g : PyData → Option Int → Option Int → Option α} {P P' : Dv → Option (Option Int)} : slF g F P P' ρ = (F ρ).bind fun d => (P ρ).bind fun lo => (P' ρ).bind fun hi => g d lo hi := rfl
@[simp] theorem e_seqA : seqA F ρ = (F ρ).bind fun d => match d with | .list xs => some xs | .tuple xs => some xs | _ => none := rfl
@[simp] theorem e_exN {n : Nat} : exN n L ρ = (L ρ).bind fun ds => if ds.length = n then some ds else none := rfl
@[simp] theorem e_yesT : yesT ρ = some true := rfl
@[simp] theorem e_enF : enF F ρ = ((F ρ).bind fun d => match d with | .list xs => some xs | _ => none).map numbered := rfl
@[simp] theorem e_forS {Fs : Fl} {tgt : Tgt} : forS Fs tgt B ρ = (Fs ρ).bind fun ds => forGo tgt B ds ρ := rfl
@[simp] theorem e_lcF {Fs : Fl} {vs : List Nat} {tgt : Tgt} {E : Fd} : lcF Fs vs tgt C E ρ = (Fs ρ).bind fun ds => lcGo tgt C E (wipeD ρ vs) ds := rfl
@[simp] theorem e_tgN {d : PyData} : tgN i d ρ = some (ρ.set i (some d)) := rfl
@[simp] theorem e_tgP {j : Nat} {a b : PyData} : tgP i j (.tuple [a, b]) ρ = some ((ρ.set i (some a)).set j (some b)) := rfl
@[simp] theorem e_wipeN : wipeD ρ [] = ρ := rfl
@[simp] theorem e_wipeC {vs : List Nat} : wipeD ρ (i :: vs) = (wipeD ρ vs).set i none := rfl
@[simp] theorem e_appS {ds : List PyData} {d : PyData} : appS i F ρ = (match dvGet ρ i, F ρ with
  | some (.list ds), some d => if ds.length < 16777216 then some (.nx (ρ.set i (some (.list (ds ++ [d]))))) else none
  | _, _ => none) := rfl
@[simp] theorem e_lolNewS : lolNewS i ρ = (match dvGet ρ i with
  | some (.list ds) => if ds.length < 16777216 then some (.nx (ρ.set i (some (.list (ds ++ [.list []]))))) else none
  | _ => none) := rfl
@[simp] theorem e_lolAppS : lolAppS i F ρ = (match dvGet ρ i, F ρ with
  | some (.list ds), some d => match ds.getLast? with
    | some (.list es) => if es.length < 16777216 then some (.nx (ρ.set i (some (.list (ds.dropLast ++ [.list (es ++ [d])]))))) else none
    | _ => none
  | _, _ => none) := rfl
@[simp] theorem e_runF {n k : Nat} {ds : List PyData} : runF n k B ds = if ds.length = k then (match B (env0 n ds) with | some (.ret d _) => some d | some (.nx _) => some .none | _ => none) else none := rfl
@[simp] theorem e_env0 {n : Nat} {ds : List PyData} : env0 n ds = ds.map some ++ List.replicate (n - ds.length) none := rfl
@[simp] theorem e_dvGet : dvGet ρ i = (ρ[i]?).join := rfl
@[simp] theorem e_dAdd {i j : Int} : dAdd (.int i) (.int j) = some (.int (i + j)) := rfl
@[simp] theorem e_dAddL {xs ys : List PyData} : dAdd (.list xs) (.list ys) = if xs.length + ys.length ≤ 16777216 then some (.list (xs ++ ys)) else none := rfl
@[simp] theorem e_dSub {i j : Int} : dSub (.int i) (.int j) = some (.int (i - j)) := rfl
@[simp] theorem e_dMul {i j : Int} : dMul (.int i) (.int j) = if (-(2 ^ 64) < i ∧ i < 2 ^ 64) ∨ (-(2 ^ 64) < j ∧ j < 2 ^ 64) then some (.int (i * j)) else none := rfl
@[simp] theorem e_dMod {i j : Int} : dMod (.int i) (.int j) = if 0 < j then some (.int (i % j)) else none := rfl
@[simp] theorem e_dDiv {i j : Int} : dDiv (.int i) (.int j) = if 0 < j ∧ j < 1073741824 then some (.int (i / j)) else none := rfl
@[simp] theorem e_dPow {i j : Int} : dPow (.int i) (.int j) = if 0 ≤ j ∧ j ≤ 1000000 ∧ i.natAbs < 2 ^ 64 then some (.int (i ^ j.toNat)) else none := rfl
@[simp] theorem e_dNeg {i : Int} : dNeg (.int i) = some (.int (-i)) := rfl
@[simp] theorem e_dLt {i j : Int} : dLt (.int i) (.int j) = some (.bool (decide (i < j))) := rfl
@[simp] theorem e_dLe {i j : Int} : dLe (.int i) (.int j) = some (.bool (decide (i ≤ j))) := rfl
@[simp] theorem e_dGt {i j : Int} : dGt (.int i) (.int j) = some (.bool (decide (j < i))) := rfl
@[simp] theorem e_dGe {i j : Int} : dGe (.int i) (.int j) = some (.bool (decide (j ≤ i))) := rfl
@[simp] theorem e_dIxL {xs : List PyData} {i : Int} : dIx (.list xs) (.int i) = atI xs i := rfl
@[simp] theorem e_dIxT {xs : List PyData} {i : Int} : dIx (.tuple xs) (.int i) = atI xs i := rfl
@[simp] theorem e_lenL {xs : List PyData} : dLen [.list xs] = some (.int xs.length) := rfl
@[simp] theorem e_lenT {xs : List PyData} : dLen [.tuple xs] = some (.int xs.length) := rfl
@[simp] theorem e_dListL {xs : List PyData} : dList [.list xs] = some xs := rfl
@[simp] theorem e_dListT {xs : List PyData} : dList [.tuple xs] = some xs := rfl
@[simp] theorem e_dTupleL {xs : List PyData} : dTuple [.list xs] = some (.tuple xs) := rfl
@[simp] theorem e_dTupleT {xs : List PyData} : dTuple [.tuple xs] = some (.tuple xs) := rfl
@[simp] theorem e_dIsi {f : PyData → Bool} {d : PyData} : dIsi f d = some (.bool (f d)) := rfl
@[simp] theorem e_intB {b : Bool} : dInt [.bool b] = some (.int (if b then 1 else 0)) := rfl
@[simp] theorem e_intI {i : Int} : dInt [.int i] = some (.int i) := rfl
@[simp] theorem e_eqI {i j : Int} : dEq (.int i) (.int j) = some (.bool (decide (i = j))) := by
  unfold dEq
  rw [if_pos (.inl rfl)]
  simp only [PyData.eqv, Bool.beq_eq_decide_eq]
@[simp] theorem e_neI {i j : Int} : dNe (.int i) (.int j) = some (.bool (!decide (i = j))) := by
  unfold dNe
  rw [if_pos (.inl rfl)]
  simp only [PyData.eqv, Bool.beq_eq_decide_eq]
@[simp] theorem e_eqS {i j : Str} : dEq (.str i) (.str j) = some (.bool (decide (i = j))) := by
  unfold dEq
  rw [if_pos (.inl rfl)]
  simp only [PyData.eqv, Bool.beq_eq_decide_eq]
@[simp] theorem e_neS {i j : Str} : dNe (.str i) (.str j) = some (.bool (!decide (i = j))) := by
  unfold dNe
  rw [if_pos (.inl rfl)]
  simp only [PyData.eqv, Bool.beq_eq_decide_eq]
@[simp] theorem e_isList {xs : List PyData} : PyData.isList (.list xs) = true := rfl
@[simp] theorem e_isTuple {xs : List PyData} : PyData.isTuple (.tuple xs) = true := rfl
@[simp] theorem e_isStr {x : Str} : PyData.isStr (.str x) = true := rfl
@[simp] theorem e_isInt {x : Int} : PyData.isInt (.int x) = true := rfl
@[simp] theorem e_isBool {x : Int} : PyData.isBool (.int x) = false := rfl
@[simp] theorem e_isBoolB {x : Bool} : PyData.isBool (.bool x) = true := rfl
@[simp] theorem e_range1 {j : Int} : dRange [.int j] = if j ≤ 16777216 ∧ -16777216 ≤ j then some (upFrom 0 j.toNat) else none := rfl
@[simp] theorem e_range2 {i j : Int} : dRange [.int i, .int j] = if j ≤ 16777216 ∧ -16777216 ≤ i ∧ i ≤ 16777216 ∧ -16777216 ≤ j ∧ j - i ≤ 16777216 then some (upFrom i (j - i).toNat) else none := rfl
end

/-! ### lists by place -/
theorem atI_map {α β : Type} (f : α → β) (xs : List α) (i : Int) : atI (xs.map f) i = (atI xs i).map f := by
  unfold atI
  rw [List.length_map]
  cases ixN xs.length i with
  | none => rfl
  | some j => simp
theorem atI_of {α : Type} {xs : List α} {i : Int} {j : Nat} {v : α} (h : i = (j : Int)) (e : xs[j]? = some v) : atI xs i = some v := by
  rw [h]; exact atI_nat e
@[simp] theorem at0 {α : Type} {a : α} {r : List α} : atI (a :: r) 0 = some a := atI_nat (j := 0) rfl
@[simp] theorem at1 {α : Type} {a b : α} {r : List α} : atI (a :: b :: r) 1 = some b := atI_nat (j := 1) rfl
@[simp] theorem at2 {α : Type} {a b c : α} {r : List α} : atI (a :: b :: c :: r) 2 = some c := atI_nat (j := 2) rfl

/-! ### comprehensions -/
theorem lc_map {tgt : Tgt} {E : Fd} {ρ : Dv} {α : Type} (enc g : α → PyData) : ∀ (xs : List α), (∀ x, x ∈ xs → (tgt (enc x) ρ).bind E = some (g x)) → lcGo tgt yesT E ρ (xs.map enc) = some (xs.map g)
  | [], _ => rfl
  | x :: xs, h => by
    have h1 := h x (by simp)
    have ih := lc_map enc g xs fun y hy => h y (by simp [hy])
    rw [List.map_cons]
    unfold lcGo
    cases e : tgt (enc x) ρ with
    | none => rw [e] at h1; cases h1
    | some ρ1 =>
      rw [e, Option.bind_some] at h1
      simp [h1, ih]
theorem lc_range {tgt : Tgt} {E : Fd} {ρ : Dv} (lo : Int) (n : Nat) (g : Nat → PyData) (h : ∀ k, k < n → (tgt (.int (lo + k)) ρ).bind E = some (g k)) : lcGo tgt yesT E ρ (upFrom lo n) = some ((List.range n).map g) :=
  lc_map (fun k : Nat => PyData.int (lo + k)) g (List.range n) fun k hk => h k (List.mem_range.mp hk)
theorem lc_filter {tgt : Tgt} {C : Dv → Option Bool} {E : Fd} {ρ : Dv} {α : Type} (enc g : α → PyData) (p : α → Bool) : ∀ (xs : List α), (∀ x, x ∈ xs → ∃ ρ1, tgt (enc x) ρ = some ρ1 ∧ C ρ1 = some (p x) ∧ (p x = true → E ρ1 = some (g x))) → lcGo tgt C E ρ (xs.map enc) = some ((xs.filter p).map g)
  | [], _ => rfl
  | x :: xs, h => by
    obtain ⟨ρ1, h1, h2, h3⟩ := h x (by simp)
    have ih := lc_filter enc g p xs fun y hy => h y (by simp [hy])
    rw [List.map_cons]
    unfold lcGo
    rw [h1, Option.bind_some, h2]
    cases e : p x with
    | true => simp [h3 e, ih, List.filter_cons, e]
    | false => simp [ih, List.filter_cons, e]

/-! ### the loops -/
/-- a loop whose every turn goes on -/
theorem for_go {tgt : Tgt} {B : Bs} {α S : Type} (enc : α → PyData) (R : S → Dv) (f : S → α → S) (Inv : List α → S → Prop) (all : List α)
    (h : ∀ pre x post s, all = pre ++ x :: post → Inv pre s → Inv (pre ++ [x]) (f s x) ∧ ((tgt (enc x) (R s)).bind B = some (.nx (R (f s x))) ∨ (tgt (enc x) (R s)).bind B = some (.ct (R (f s x))))) :
    ∀ (pre post : List α) (s : S), all = pre ++ post → Inv pre s → forGo tgt B (post.map enc) (R s) = some (.nx (R (post.foldl f s))) ∧ Inv all (post.foldl f s)
  | pre, [], s, e, i => ⟨rfl, by rw [e, List.append_nil]; exact i⟩
  | pre, x :: post, s, e, i => by
    obtain ⟨i2, h2⟩ := h pre x post s e i
    have ih := for_go enc R f Inv all h (pre ++ [x]) post (f s x) (by rw [e, List.append_assoc]; rfl) i2
    refine ⟨?_, ih.2⟩
    rw [List.map_cons]
    unfold forGo
    cases q : tgt (enc x) (R s) with
    | none => rw [q] at h2; simp at h2
    | some ρ1 =>
      rw [q, Option.bind_some] at h2
      rcases h2 with h2 | h2 <;> simp [h2, ih.1]
end Dat
open PySem PySem.Spec PyProof.Rows L2
namespace Dat
/-! ### marks, entries, rows -/
abbrev Mark := Bool × Nat
abbrev Entry := Int × Int
abbrev Row := Int × Mark
def sideS : Bool → Str
  | false => "bank"
  | true => "book"
def eMark (m : Mark) : PyData := .tuple [.str (sideS m.1), .int m.2]
def eEntry (e : Entry) : PyData := .tuple [.int e.1, .int e.2]
def eRow (r : Row) : PyData := .tuple [.int r.1, .str (sideS r.2.1), .int r.2.2]
theorem side_inj {a b : Bool} : sideS a = sideS b ↔ a = b := by
  cases a <;> cases b <;> simp [sideS] <;> decide +kernel
theorem side_bank (a : Bool) : (sideS a = ("bank" : Str)) ↔ a = false := side_inj (b := false)
theorem side_book (a : Bool) : (sideS a = ("book" : Str)) ↔ a = true := side_inj (b := true)
theorem eqv_mark (a b : Mark) : PyData.eqv (eMark a) (eMark b) = decide (a = b) := by
  obtain ⟨a1, a2⟩ := a
  obtain ⟨b1, b2⟩ := b
  simp only [eMark, PyData.eqv, PyData.eqvAll, Bool.and_true]
  rw [Bool.eq_iff_iff]
  simp [side_inj]
  intro _
  omega
theorem eqv_entry (a b : Entry) : PyData.eqv (eEntry a) (eEntry b) = decide (a = b) := by
  obtain ⟨a1, a2⟩ := a
  obtain ⟨b1, b2⟩ := b
  simp only [eEntry, PyData.eqv, PyData.eqvAll, Bool.and_true]
  rw [Bool.eq_iff_iff]
  simp
theorem eqvAll_map {α : Type} [DecidableEq α] {enc : α → PyData} (h : ∀ a b, PyData.eqv (enc a) (enc b) = decide (a = b)) : ∀ xs ys : List α, PyData.eqvAll (xs.map enc) (ys.map enc) = decide (xs = ys)
  | [], [] => rfl
  | [], _ :: _ => by simp [PyData.eqvAll]
  | _ :: _, [] => by simp [PyData.eqvAll]
  | x :: xs, y :: ys => by
    simp only [List.map_cons, PyData.eqvAll, h, eqvAll_map h xs ys]
    rw [Bool.eq_iff_iff]
    simp
/-! ### depth -/
theorem depthAll_le {xs : List PyData} {n : Nat} (h : ∀ x, x ∈ xs → x.depth ≤ n) : PyData.depthAll xs ≤ n := by
  induction xs with
  | nil => simp [PyData.depthAll]
  | cons x xs ih =>
    simp only [PyData.depthAll]
    have h1 := h x (by simp)
    have h2 := ih fun y hy => h y (by simp [hy])
    omega
theorem depthAll_map {α : Type} {enc : α → PyData} {n : Nat} (h : ∀ a, (enc a).depth ≤ n) (xs : List α) : PyData.depthAll (xs.map enc) ≤ n := depthAll_le fun x hx => by
  obtain ⟨a, _, rfl⟩ := List.mem_map.mp hx
  exact h a
theorem shalL {xs : List PyData} (h : PyData.depthAll xs ≤ 99) : shal (.list xs) = true := by
  unfold shal; simp only [PyData.depth]; exact decide_eq_true (by omega)
theorem shalT {xs : List PyData} (h : PyData.depthAll xs ≤ 99) : shal (.tuple xs) = true := by
  unfold shal; simp only [PyData.depth]; exact decide_eq_true (by omega)
theorem depth_mark (m : Mark) : (eMark m).depth = 1 := by simp [eMark, PyData.depth, PyData.depthAll]
theorem depth_entry (m : Entry) : (eEntry m).depth = 1 := by simp [eEntry, PyData.depth, PyData.depthAll]
theorem depth_row (m : Row) : (eRow m).depth = 1 := by simp [eRow, PyData.depth, PyData.depthAll]
theorem shal_of {d : PyData} {n : Nat} (h : d.depth = n) (hn : n ≤ 100 := by decide) : shal d = true := decide_eq_true (by omega)
theorem shal_map {α : Type} {enc : α → PyData} {n : Nat} (h : ∀ a, (enc a).depth = n) (xs : List α) (hn : n ≤ 99 := by decide) : shal (.list (xs.map enc)) = true := shalL (Nat.le_trans (depthAll_map (fun a => Nat.le_of_eq (h a)) xs) hn)
theorem shal_mapT {α : Type} {enc : α → PyData} {n : Nat} (h : ∀ a, (enc a).depth = n) (xs : List α) (hn : n ≤ 99 := by decide) : shal (.tuple (xs.map enc)) = true := shalT (Nat.le_trans (depthAll_map (fun a => Nat.le_of_eq (h a)) xs) hn)
/-- lists of alike things compared -/
theorem eq_lists {α : Type} [DecidableEq α] {enc : α → PyData} {n : Nat} (h : ∀ a b, PyData.eqv (enc a) (enc b) = decide (a = b)) (hd : ∀ a, (enc a).depth = n) (xs ys : List α) (hn : n ≤ 99 := by decide) : dEq (.list (xs.map enc)) (.list (ys.map enc)) = some (.bool (decide (xs = ys))) := by
  unfold dEq
  rw [if_pos (.inl (shal_map hd xs hn))]
  simp only [PyData.eqv, eqvAll_map h]
theorem ne_lists {α : Type} [DecidableEq α] {enc : α → PyData} {n : Nat} (h : ∀ a b, PyData.eqv (enc a) (enc b) = decide (a = b)) (hd : ∀ a, (enc a).depth = n) (xs ys : List α) (hn : n ≤ 99 := by decide) : dNe (.list (xs.map enc)) (.list (ys.map enc)) = some (.bool (!decide (xs = ys))) := by
  unfold dNe
  rw [if_pos (.inl (shal_map hd xs hn))]
  simp only [PyData.eqv, eqvAll_map h]
theorem any_map {α : Type} [DecidableEq α] {enc : α → PyData} (h : ∀ a b, PyData.eqv (enc a) (enc b) = decide (a = b)) (xs : List α) (x : α) : anyEq (xs.map enc) (enc x) = decide (x ∈ xs) := by
  unfold anyEq
  rw [List.any_map, Bool.eq_iff_iff, List.any_eq_true]
  constructor
  · rintro ⟨y, hy, e⟩
    have e' : y = x := by simpa [h] using e
    subst e'; simpa using hy
  · intro hx
    exact ⟨x, by simpa using hx, by simp [h]⟩
theorem in_list {α : Type} [DecidableEq α] {enc : α → PyData} {n : Nat} (h : ∀ a b, PyData.eqv (enc a) (enc b) = decide (a = b)) (hd : ∀ a, (enc a).depth = n) (xs : List α) (x : α) (hn : n ≤ 99 := by decide) : dIn (enc x) (.list (xs.map enc)) = some (.bool (decide (x ∈ xs))) := by
  unfold dIn
  simp only
  rw [if_pos (.inl (shal_map hd xs hn)), any_map h]
theorem notIn_list {α : Type} [DecidableEq α] {enc : α → PyData} {n : Nat} (h : ∀ a b, PyData.eqv (enc a) (enc b) = decide (a = b)) (hd : ∀ a, (enc a).depth = n) (xs : List α) (x : α) (hn : n ≤ 99 := by decide) : dNotIn (enc x) (.list (xs.map enc)) = some (.bool (!decide (x ∈ xs))) := by
  unfold dNotIn
  simp only
  rw [if_pos (.inl (shal_map hd xs hn)), any_map h]
theorem in_tup {α : Type} [DecidableEq α] {enc : α → PyData} {n : Nat} (h : ∀ a b, PyData.eqv (enc a) (enc b) = decide (a = b)) (hd : ∀ a, (enc a).depth = n) (xs : List α) (x : α) (hn : n ≤ 99 := by decide) : dIn (enc x) (.tuple (xs.map enc)) = some (.bool (decide (x ∈ xs))) := by
  unfold dIn
  simp only
  rw [if_pos (.inl (shal_mapT hd xs hn)), any_map h]
theorem notIn_tup {α : Type} [DecidableEq α] {enc : α → PyData} {n : Nat} (h : ∀ a b, PyData.eqv (enc a) (enc b) = decide (a = b)) (hd : ∀ a, (enc a).depth = n) (xs : List α) (x : α) (hn : n ≤ 99 := by decide) : dNotIn (enc x) (.tuple (xs.map enc)) = some (.bool (!decide (x ∈ xs))) := by
  unfold dNotIn
  simp only
  rw [if_pos (.inl (shal_mapT hd xs hn)), any_map h]

@[simp] theorem eq_nil {xs : List PyData} : dEq (.list xs) (.list []) = some (.bool xs.isEmpty) := by
  unfold dEq
  rw [if_pos (.inr rfl)]
  cases xs <;> rfl
@[simp] theorem ne_nil {xs : List PyData} : dNe (.list xs) (.list []) = some (.bool (!xs.isEmpty)) := by
  unfold dNe
  rw [if_pos (.inr rfl)]
  cases xs <;> rfl
@[simp] theorem eqB {a b : Bool} : dEq (.bool a) (.bool b) = some (.bool (a == b)) := by
  unfold dEq
  rw [if_pos (.inl rfl)]
  simp only [PyData.eqv]
@[simp] theorem neB {a b : Bool} : dNe (.bool a) (.bool b) = some (.bool (!(a == b))) := by
  unfold dNe
  rw [if_pos (.inl rfl)]
  simp only [PyData.eqv]
theorem eq_enc {α : Type} [DecidableEq α] {enc : α → PyData} {n : Nat} (h : ∀ a b, PyData.eqv (enc a) (enc b) = decide (a = b)) (hd : ∀ a, (enc a).depth = n) (a b : α) (hn : n ≤ 99 := by decide) : dEq (enc a) (enc b) = some (.bool (decide (a = b))) := by
  unfold dEq
  rw [if_pos (.inl (shal_of (hd a) (by omega))), h]
theorem ne_enc {α : Type} [DecidableEq α] {enc : α → PyData} {n : Nat} (h : ∀ a b, PyData.eqv (enc a) (enc b) = decide (a = b)) (hd : ∀ a, (enc a).depth = n) (a b : α) (hn : n ≤ 99 := by decide) : dNe (enc a) (enc b) = some (.bool (!decide (a = b))) := by
  unfold dNe
  rw [if_pos (.inl (shal_of (hd a) (by omega))), h]
/-! ### the order of tuples -/
def ltAll (xs ys : List PyData) : Bool := PyProof.Rows.lexLt itemOrd (PySem.W.keyToksAll xs) (PySem.W.keyToksAll ys)
theorem lt_tuple (xs ys : List PyData) : PySem.W.dataLt (.tuple xs) (.tuple ys) = ltAll xs ys := PySem.W.dataLt_tuple xs ys
theorem ltAll_nil : ltAll [] [] = false := by
  unfold ltAll
  cases h : PyProof.Rows.lexLt itemOrd (PySem.W.keyToksAll []) (PySem.W.keyToksAll []) with
  | false => rfl
  | true => simp [PySem.W.keyToksAll, PyProof.Rows.lexLt] at h <;> revert h <;> decide
theorem ltAll_nilC {y : PyData} {ys : List PyData} : ltAll [] (y :: ys) = true := by
  unfold ltAll
  rw [PySem.W.toks_all_cons]
  simp only [PySem.W.keyToksAll]
  rw [PySem.W.lex_atom (by simp) _ _]
  decide
theorem ltAll_consN {x : PyData} {xs : List PyData} : ltAll (x :: xs) [] = false := by
  unfold ltAll
  rw [PySem.W.toks_all_cons]
  simp only [PySem.W.keyToksAll]
  rw [PySem.W.lex_atom (by simp) _ _]
  decide
theorem ltAll_cons {x y : PyData} {xs ys : List PyData} (h : PySem.W.alike x y = true) : ltAll (x :: xs) (y :: ys) = if PyData.eqv x y = true then ltAll xs ys else PySem.W.dataLt x y := by
  unfold ltAll
  cases e : PyData.eqv x y with
  | true => rw [PySem.W.dataLt_all_yes h e]; simp
  | false => rw [PySem.W.dataLt_all_no h e]; simp
/-- an earlier row -/
def rowLt (a b : Row) : Bool := decide (a.1 < b.1 ∨ (a.1 = b.1 ∧ ((a.2.1 = false ∧ b.2.1 = true) ∨ (a.2.1 = b.2.1 ∧ a.2.2 < b.2.2))))
theorem lt_side (a b : Bool) : PySem.W.dataLt (.str (sideS a)) (.str (sideS b)) = decide (a = false ∧ b = true) := by
  rw [PySem.W.dataLt_str]
  cases a <;> cases b <;> decide +kernel
theorem lt_row (a b : Row) : PySem.W.dataLt (eRow a) (eRow b) = rowLt a b := by
  obtain ⟨a1, a2, a3⟩ := a
  obtain ⟨b1, b2, b3⟩ := b
  unfold eRow rowLt
  rw [lt_tuple, ltAll_cons rfl, ltAll_cons rfl, ltAll_cons rfl, ltAll_nil]
  simp only [PyData.eqv, PySem.W.dataLt_int, lt_side]
  rw [Bool.eq_iff_iff]
  by_cases h1 : a1 = b1
  · subst h1
    by_cases h2 : a2 = b2
    · subst h2
      by_cases h3 : a3 = b3
      · subst h3; simp
      · have h4 : ¬ ((a3 : Int) = b3) := by omega
        cases a2 <;> simp [h4]
    · have h4 : ¬ (sideS a2 = sideS b2) := fun z => h2 (side_inj.mp z)
      cases a2 <;> cases b2 <;> simp_all
  · simp [h1]
def rowLe (a b : Row) : Bool := !rowLt b a
theorem alike_row (a b : Row) : PySem.W.alike (eRow a) (eRow b) = true := by simp [eRow, PySem.W.alike, PySem.W.alikeAll]
theorem rowLt_trans {a b c : Row} (h : rowLe a b = true) (h' : rowLe b c = true) : rowLe a c = true := by
  obtain ⟨a1, a2, a3⟩ := a
  obtain ⟨b1, b2, b3⟩ := b
  obtain ⟨c1, c2, c3⟩ := c
  simp only [rowLe, rowLt, Bool.not_eq_true', decide_eq_false_iff_not] at *
  cases a2 <;> cases b2 <;> cases c2 <;> simp at * <;> omega
theorem rowLe_total (a b : Row) : (rowLe a b || rowLe b a) = true := by
  obtain ⟨a1, a2, a3⟩ := a
  obtain ⟨b1, b2, b3⟩ := b
  simp only [rowLe, rowLt, Bool.or_eq_true, Bool.not_eq_true', decide_eq_false_iff_not]
  cases a2 <;> cases b2 <;> simp <;> omega
theorem rowLt_of {a b : Row} (h : rowLe a b = true) (hn : a.2 ≠ b.2) : rowLt a b = true := by
  obtain ⟨a1, a2, a3⟩ := a
  obtain ⟨b1, b2, b3⟩ := b
  simp only [rowLe, rowLt, Bool.not_eq_true', decide_eq_false_iff_not, decide_eq_true_eq] at *
  cases a2 <;> cases b2 <;> simp at * <;> omega
/-- all rows: a day, a mark -/
def rowsOf (s : Bool) (es : List Entry) : List Row := es.mapIdx fun i e => (e.1, (s, i))
def rows (banks books : List Entry) : List Row := rowsOf false banks ++ rowsOf true books
def sortedRows (banks books : List Entry) : List Row := (rows banks books).mergeSort rowLe
theorem rowsOf_marks (s : Bool) (es : List Entry) : (rowsOf s es).map (·.2) = (List.range es.length).map fun i => (s, i) := by
  apply List.ext_getElem?
  intro i
  simp only [rowsOf, List.getElem?_map, List.getElem?_mapIdx]
  by_cases h : i < es.length
  · simp [h]
  · simp [h, List.getElem?_eq_none (Nat.le_of_not_lt h)]
theorem rows_nodup (banks books : List Entry) : ((rows banks books).map (·.2)).Nodup := by
  unfold rows
  rw [List.map_append, rowsOf_marks, rowsOf_marks, List.nodup_append]
  refine ⟨?_, ?_, ?_⟩
  · exact (List.nodup_range).map (f := fun i => (false, i)) fun a b h => by simpa using h
  · exact (List.nodup_range).map (f := fun i => (true, i)) fun a b h => by simpa using h
  · intro a ha b hb e
    obtain ⟨i, _, rfl⟩ := List.mem_map.mp ha
    obtain ⟨j, _, rfl⟩ := List.mem_map.mp hb
    cases e
theorem sorted_strict (banks books : List Entry) : (sortedRows banks books).Pairwise fun a b => rowLt a b = true := by
  have h1 : (sortedRows banks books).Pairwise fun a b => rowLe a b = true := List.pairwise_mergeSort (le := rowLe) (fun _ _ _ => rowLt_trans) rowLe_total _
  have h2 : ((sortedRows banks books).map (·.2)).Nodup := ((List.mergeSort_perm _ _).map _).nodup_iff.mpr (rows_nodup banks books)
  have h3 : (sortedRows banks books).Pairwise fun a b => a.2 ≠ b.2 := List.pairwise_map.mp h2
  exact (h1.and h3).imp fun ⟨x, y⟩ => rowLt_of x y
theorem sort_rows (rs : List Row) : dSorted [.list (rs.map eRow)] = some ((rs.mergeSort rowLe).map eRow) := by
  unfold dSorted
  have hok : sortOk (rs.map eRow) = true := by
    unfold sortOk
    simp only [Bool.and_eq_true, Bool.or_eq_true, List.all_eq_true, List.mem_map]
    refine ⟨⟨?_, .inl ?_⟩, ?_⟩
    · rintro x ⟨a, _, rfl⟩ y ⟨b, _, rfl⟩; exact alike_row a b
    · rintro x ⟨a, _, rfl⟩; rfl
    · rintro x ⟨a, _, rfl⟩; exact shal_of (depth_row a)
  simp only [hok, if_true]
  congr 1
  refine (PySem.W.sort_maps eRow fun a _ b _ => ?_).symm
  rw [PySem.W.dataLe_eq]
  simp only [id, cond_false, lt_row, rowLe]
theorem sorted_length (banks books : List Entry) : (sortedRows banks books).length = banks.length + books.length := by
  unfold sortedRows rows
  rw [(List.mergeSort_perm _ _).length_eq, List.length_append]
  simp [rowsOf]
theorem sorted_mem {banks books : List Entry} {r : Row} : r ∈ sortedRows banks books ↔ r ∈ rows banks books := (List.mergeSort_perm _ _).mem_iff
theorem row_mem {banks books : List Entry} {r : Row} (h : r ∈ rows banks books) : (if r.2.1 = true then books else banks)[r.2.2]?.map (·.1) = some r.1 := by
  unfold rows at h
  rcases List.mem_append.mp h with h | h
  · obtain ⟨i, hi, e⟩ := List.mem_mapIdx.mp h
    subst e
    simp [hi]
  · obtain ⟨i, hi, e⟩ := List.mem_mapIdx.mp h
    subst e
    simp [hi]
/-! ### groups, as the rows go by -/
def gStep (span : Int) (s : List (List Row) × Int) (r : Row) : List (List Row) × Int :=
  if s.1 = [] ∨ r.1 - s.2 > span then (s.1 ++ [[r]], r.1) else (s.1.dropLast ++ [(s.1.getLast?.getD []) ++ [r]], r.1)
def groupsR (span : Int) (rs : List Row) : List (List Row) := (rs.foldl (gStep span) ([], 0)).1
def eG (g : List Row) : PyData := .list (g.map fun r => eMark r.2)
/-- what holds of groups: no day in one is more than the span beyond the one ahead, from one to the next it is -/
structure Gaps (span : Int) (gs : List (List Row)) : Prop where
  ne : ∀ g, g ∈ gs → g ≠ []
  within : ∀ (g : List Row) (k : Nat) (r s : Row), g ∈ gs → g[k]? = some r → g[k + 1]? = some s → s.1 - r.1 ≤ span
  across : ∀ (a b : List (List Row)) (g : List Row) (r s : Row), gs = a ++ g :: b → a.flatten.getLast? = some r → g[0]? = some s → s.1 - r.1 > span
theorem gStep_inv {span : Int} {pre : List Row} {s : List (List Row) × Int} (r : Row) (h1 : s.1.flatten = pre) (h2 : Gaps span s.1) (h3 : ∀ q, pre.getLast? = some q → s.2 = q.1) :
    (gStep span s r).1.flatten = pre ++ [r] ∧ Gaps span (gStep span s r).1 ∧ (gStep span s r).2 = r.1 := by
  obtain ⟨gs, last⟩ := s
  subst h1
  unfold gStep
  simp only at h2 h3 ⊢
  by_cases hc : gs = [] ∨ r.1 - last > span
  · rw [if_pos hc]
    refine ⟨by simp, ⟨fun g hg => ?_, fun g k x y hg e1 e2 => ?_, fun a b g x y e e1 e2 => ?_⟩, rfl⟩
    · rcases List.mem_append.mp hg with hg | hg
      · exact h2.ne g hg
      · rw [List.mem_singleton.mp hg]; simp
    · rcases List.mem_append.mp hg with hg | hg
      · exact h2.within g k x y hg e1 e2
      · rw [List.mem_singleton.mp hg] at e2; simp at e2
    · rcases List.eq_nil_or_concat b with rfl | ⟨b', z, rfl⟩
      · have e' : gs = a ∧ [r] = g := by
          have := List.append_inj' (s₁ := gs) (s₂ := a) (t₁ := [[r]]) (t₂ := [g]) e rfl
          exact ⟨this.1, by simpa using this.2⟩
        obtain ⟨rfl, rfl⟩ := e'
        have ey : r = y := by simpa using e2
        subst ey
        rcases hc with rfl | hc
        · simp at e1
        · rw [h3 x e1] at hc; exact hc
      · have e' : gs = a ++ g :: b' := by
          have e2 : gs ++ [[r]] = (a ++ g :: b') ++ [z] := (show gs ++ [[r]] = a ++ g :: b'.concat z from e).trans (by simp)
          exact (List.append_inj' e2 rfl).1
        exact h2.across a b' g x y e' e1 e2
  · rw [if_neg hc]
    have hne : gs ≠ [] := fun z => hc (.inl z)
    obtain ⟨ini, g0, rfl⟩ : ∃ ini g0, gs = ini ++ [g0] := ⟨gs.dropLast, gs.getLast hne, (List.dropLast_concat_getLast hne).symm⟩
    simp only [List.getLast?_append, List.getLast?_singleton, Option.some_or, Option.getD_some, List.dropLast_concat]
    have hg0 : g0 ≠ [] := h2.ne g0 (by simp)
    have hlast : r.1 - last ≤ span := by
      by_cases z : r.1 - last > span
      · exact absurd (.inr z) hc
      · omega
    refine ⟨by simp, ⟨fun g hg => ?_, fun g k x y hg e1 e2 => ?_, fun a b g x y e e1 e2 => ?_⟩, trivial⟩
    · rcases List.mem_append.mp hg with hg | hg
      · exact h2.ne g (by simp [hg])
      · rw [List.mem_singleton.mp hg]; simp
    · rcases List.mem_append.mp hg with hg | hg
      · exact h2.within g k x y (by simp [hg]) e1 e2
      · rw [List.mem_singleton.mp hg] at e1 e2
        by_cases hk : k + 1 < g0.length
        · rw [List.getElem?_append_left hk] at e2
          rw [List.getElem?_append_left (by omega)] at e1
          exact h2.within g0 k x y (by simp) e1 e2
        · have hk2 : k + 1 = g0.length := by
            have := (List.getElem?_eq_some_iff.mp e2).1
            simp at this; omega
          have ey : r = y := by
            rw [List.getElem?_append_right (by omega), hk2, Nat.sub_self] at e2
            simpa using e2
          subst ey
          rw [List.getElem?_append_left (by omega)] at e1
          have ex : (ini ++ [g0]).flatten.getLast? = some x := by
            rw [List.flatten_append, List.flatten_singleton, List.getLast?_append]
            have : g0.getLast? = some x := by rw [List.getLast?_eq_getElem?, show g0.length - 1 = k by omega]; exact e1
            rw [this]; rfl
          rw [h3 x ex] at hlast; exact hlast
    · rcases List.eq_nil_or_concat b with rfl | ⟨b', z, rfl⟩
      · have e' : ini = a ∧ g0 ++ [r] = g := by
          have := List.append_inj' (s₁ := ini) (s₂ := a) (t₁ := [g0 ++ [r]]) (t₂ := [g]) e rfl
          exact ⟨this.1, by simpa using this.2⟩
        obtain ⟨rfl, rfl⟩ := e'
        have ey : g0[0]? = some y := by
          rw [List.getElem?_append_left (by cases g0 with | nil => exact absurd rfl hg0 | cons _ _ => simp)] at e2
          exact e2
        exact h2.across ini [] g0 x y rfl e1 ey
      · have e' : ini = a ++ g :: b' := by
          have e2 : ini ++ [g0 ++ [r]] = (a ++ g :: b') ++ [z] := (show ini ++ [g0 ++ [r]] = a ++ g :: b'.concat z from e).trans (by simp)
          exact (List.append_inj' e2 rfl).1
        exact h2.across a (b' ++ [g0]) g x y (by rw [e']; simp) e1 e2
theorem groups_fold {span : Int} : ∀ (post pre : List Row) (s : List (List Row) × Int), s.1.flatten = pre → Gaps span s.1 → (∀ q, pre.getLast? = some q → s.2 = q.1) →
    (post.foldl (gStep span) s).1.flatten = pre ++ post ∧ Gaps span (post.foldl (gStep span) s).1
  | [], pre, s, h1, h2, _ => ⟨by simpa using h1, h2⟩
  | r :: post, pre, s, h1, h2, h3 => by
    obtain ⟨i1, i2, i3⟩ := gStep_inv r h1 h2 h3
    have ih := groups_fold post (pre ++ [r]) (gStep span s r) i1 i2 fun q hq => by
      have : r = q := by simpa using hq
      rw [← this]; exact i3
    simpa using ih
theorem gaps_nil {span : Int} : Gaps span [] := ⟨fun g h => absurd h (by simp), fun g k r s h => absurd h (by simp), fun a b g r s e => by simp at e⟩
theorem groups_flat (span : Int) (rs : List Row) : (groupsR span rs).flatten = rs := by
  have := (groups_fold (span := span) rs [] ([], 0) rfl gaps_nil (fun q h => by simp at h)).1
  simpa [groupsR] using this
theorem groups_gaps (span : Int) (rs : List Row) : Gaps span (groupsR span rs) := (groups_fold (span := span) rs [] ([], 0) rfl gaps_nil (fun q h => by simp at h)).2
theorem flat_len {gs : List (List Row)} (h : ∀ g, g ∈ gs → g ≠ []) : gs.length ≤ gs.flatten.length := by
  induction gs with
  | nil => simp
  | cons g gs ih =>
    have h1 := ih fun x hx => h x (by simp [hx])
    have h2 : g ≠ [] := h g (by simp)
    have h3 : 0 < g.length := List.length_pos_iff.mpr h2
    simp only [List.length_cons, List.flatten_cons, List.length_append]
    omega
theorem num_map {α : Type} (enc : α → PyData) (xs : List α) : numbered (xs.map enc) = (xs.mapIdx fun i x => (i, x)).map fun p => .tuple [.int p.1, enc p.2] := by
  apply List.ext_getElem?
  intro i
  simp [numbered, List.getElem?_mapIdx]
  cases xs[i]? <;> rfl
end Dat
open PySem PySem.Spec PyProof.Rows L2
namespace Dat
section
variable {W : XK} {X : Cx} {e a b : Expr} {es : List Expr} {pos pos' p : Pos} {O O' OL : Os} {F F' : Fd} {L : Fl}
/-! ### list(range(n)) -/
def lrF (F : Fd) : Fl := fun ρ => match F ρ with
  | some (.int n) => if 0 ≤ n ∧ n ≤ 16777216 then some (upFrom 0 n.toNat) else none
  | _ => none
theorem lrF_some {ρ : Dv} {ds : List PyData} (h : lrF F ρ = some ds) : ∃ n, F ρ = some (.int n) ∧ 0 ≤ n ∧ n ≤ 16777216 ∧ ds = upFrom 0 n.toNat := by
  unfold lrF at h
  split at h
  · split at h
    · rename_i h1 h2
      cases h; exact ⟨_, h1, h2.1, h2.2, rfl⟩
    · cases h
  · cases h
theorem rg_dp {K : PySem.W.Frag} {G : Hp} {n : Int} : DpAll K G (rgV 0 n) (upFrom 0 n.toNat) := by
  unfold rgV upFrom
  rw [show n - 0 = n by omega]
  generalize List.range n.toNat = l
  induction l with
  | nil => exact .nil
  | cons i l ih => exact .cons (.int _) ih
theorem o_listRg {p1 p2 p3 : Pos} (hc : X.calm = true) (hg : Gl X "list") (hm : X.mg "list" = none) (hg2 : Gl X "range") (hm2 : X.mg "range" = none) (ha : PE X a (RB X.K O F))
    (n1 : starEach [a] X.env = (false, eval a X.env) :: starEach [] X.env := by rfl) (n2 : starEach [.Call (.Name "range" p1) [a] [] p2] X.env = (false, eval (.Call (.Name "range" p1) [a] [] p2) X.env) :: starEach [] X.env := by rfl) :
    PE X (.Call (.Name "list" p3) [.Call (.Name "range" p1) [a] [] p2] [] pos) (RO X.K O (lrF F)) :=
  pe_imp (pe_listRg hc hg hm (prg_1 hg2 hm2 ha n1) n2) fun σ H Q ⟨Γ, G, ρ, ds, R, ef, q⟩ => by
    obtain ⟨n, e1, h0, h1, rfl⟩ := lrF_some ef
    refine ⟨Γ, G, ρ, _, R, e1, fun v G' H' s bd => ⟨n, bd.int, RgOk.of_le (by omega) h1 (by omega) h0, fun c hc => ?_⟩⟩
    have hcH : H c = none := s.hh.free hc
    exact q c _ G' _ (s.trans (Stp.new s.gh hc)) hcH (s.gh.free hc) upd_same rg_dp
/-! ### x.append(y.pop(i)) -/
def appPopS (i j : Nat) (F : Fd) : Bs := fun ρ => match dvGet ρ i, dvGet ρ j, F ρ with
  | some (.list ds), some (.list es), some (.int n) => if ds.length < 16777216 ∧ 0 ≤ n ∧ n < 16777216 then match es[n.toNat]? with
      | some d => some (.nx ((ρ.set j (some (.list (es.eraseIdx n.toNat)))).set i (some (.list (ds ++ [d])))))
      | none => none
    else none
  | _, _, _ => none
theorem appPopS_some {i j : Nat} {ρ : Dv} {r : Res} (h : appPopS i j F ρ = some r) : ∃ ds es n d, dvGet ρ i = some (.list ds) ∧ dvGet ρ j = some (.list es) ∧ F ρ = some (.int n) ∧ ds.length < 16777216 ∧ 0 ≤ n ∧ n < 16777216 ∧ es[n.toNat]? = some d ∧
    r = .nx ((ρ.set j (some (.list (es.eraseIdx n.toNat)))).set i (some (.list (ds ++ [d])))) := by
  unfold appPopS at h
  split at h
  · rename_i ds es n e1 e2 e3
    split at h
    · rename_i hc
      split at h
      · cases h; exact ⟨ds, es, n, _, e1, e2, e3, hc.1, hc.2.1, hc.2.2, by assumption, rfl⟩
      · cases h
    · cases h
  · cases h
theorem Own.isLst {K : PySem.W.Frag} {G H : Hp} {v : V} {fp : List Addr} {ds : List PyData} (o : Own K G H .lst v fp (.list ds)) : ∃ p xs, v = .ref p ∧ fp = [p] ∧ H p = some (.lst xs) ∧ DpAll K G xs ds := by
  cases o with
  | lst hp da => exact ⟨_, _, rfl, rfl, hp, da⟩
theorem s_appPop {y z : Str} {pz apos cpos apos2 cpos2 : Pos} (i j : Nat) (hi : (i, Kd.lst) ∈ O) (hj : (j, Kd.lst) ∈ O) (hne : i ≠ j)
    (hb : PE X (.Call (.Attribute (.Name y pos') "append" apos) [.Call (.Attribute (.Name z pz) "pop" apos2) [e] [] cpos2] [] cpos) (tBM X.K "list" rAppend (tVar i) (tCons (tBM X.K "list" rPopAt (tVar j) (tCons (RB X.K O F) tNil)) tNil)))
    (hs : swapsWith (.Call (.Attribute (.Name y pos') "append" apos) [.Call (.Attribute (.Name z pz) "pop" apos2) [e] [] cpos2] [] cpos) none pos.line X.env = pure false := by rfl) :
    PS X (.Expr (.Call (.Attribute (.Name y pos') "append" apos) [.Call (.Attribute (.Name z pz) "pop" apos2) [e] [] cpos2] [] cpos) pos) (RS X.K W O O OL (appPopS i j F)) := ps_imp (ps_expr hb hs) fun D σ H ⟨Γ, G, ρ, r, R, er, f⟩ => by
  obtain ⟨ds, es, n, d, e1, e2, e3, hl, h0, h1, hd, rfl⟩ := appPopS_some er
  have e1' := dvGet_some e1
  have e2' := dvGet_some e2
  obtain ⟨w, fp, f2, o, nn, _⟩ := R.change hi e1'
  obtain ⟨w2, fp2, g2, o2, nn2, _⟩ := R.change hj e2'
  obtain ⟨p, xs, rfl, rfl, hp, da⟩ := o.isLst
  obtain ⟨p2, xs2, rfl, rfl, hp2, da2⟩ := o2.isLst
  refine ⟨_, f2, .inl ⟨rfl, _, SqL.of hp⟩, _, g2, .inl ⟨rfl, _, SqL.of hp2⟩, Γ, G, ρ, _, R, e3, fun v G' H' s dv => ?_⟩
  have R1 := R.stp s
  obtain ⟨w2', fp2', g2', o2', nn2', ch2⟩ := R1.change hj e2'
  rw [g2] at g2'; cases g2'
  obtain ⟨p2', xs2', er2, rfl, hp2', da2'⟩ := o2'.isLst
  cases er2
  obtain ⟨vy, hv1, hv2⟩ := da2'.get hd
  refine ⟨p2, xs2', n, n.toNat, vy, rfl, by rw [dv.int], hp2', by omega, by omega, ?_, hv1, ?_⟩
  · unfold seqIndex?
    have hlt : n.toNat < xs2'.length := (List.getElem?_eq_some_iff.mp hv1).1
    simp only [show ¬ n < 0 by omega, if_false]
    rw [if_pos (by simp; omega)]
  · have R2 := ch2 G' H' (upd H' p2 (.lst (xs2'.eraseIdx n.toNat))) [p2] _ (Stp.refl R1.gh) (fun a ha => (nn2' a ha).2) (.lst upd_same (da2'.eraseIdx n.toNat)) (fun a ha _ => upd_ne fun z => ha (by simp [z])) fun a ha => .inl ha
    have e1'' : (ρ.set j (some (.list (es.eraseIdx n.toNat))))[i]? = some (some (.list ds)) := by rw [List.getElem?_set_ne (Ne.symm hne)]; exact e1'
    obtain ⟨w', fp', f2', o', nn', ch⟩ := R2.change hi e1''
    rw [f2] at f2'; cases f2'
    obtain ⟨p', xs', er3, rfl, hp', da'⟩ := o'.isLst
    cases er3
    refine ⟨p, xs', vy, rfl, rfl, hp', by rw [da'.length, line_eq]; exact hl, ?_⟩
    refine f σ G' _ (ch G' _ _ [p] _ (Stp.refl R2.gh) (fun a ha => (nn' a ha).2) (.lst upd_same (da'.append (.cons hv2 .nil))) (fun a ha _ => upd_ne fun z => ha (by simp [z])) fun a ha => .inl ha)
end
end Dat
open PySem PySem.Spec PyProof.Rows L2
namespace Dat
/-! ### sorted(xs, key=f), f a known def -/
/-- the key of an item -/
def keyD (g : List PyData → Option PyData) (d : PyData) : PyData := (g [d]).getD .none
/-- keys that can be sorted by -/
def sortOkW (ks : List PyData) : Bool := sortOk ks
def dSortK (g : List PyData → Option PyData) : List PyData → Option (List PyData)
  | [.list xs] => if (xs.all fun x => (g [x]).isSome) && sortOk (xs.map (keyD g)) then some (xs.mergeSort (PySem.W.dataLe false (keyD g))) else none
  | _ => none
/-- list.sort by a def's keys, in the layer -/
theorem keyS_rest {X : Cx} {pins : List (Addr × Obj)} {σ : L2.St} {j : Nat} {f : Addr} {fd : FuncData} {p : Str} {g : List PyData → Option PyData} {A : Around} {a kS : Addr} {e1 : Nat} {E : Value → Shared → Prop}
    (F : FnOk X.prog X.w X.K X.mg X.base CX0 j f fd [p] (spD X.K g)) (hb : Binds X.K fd [p] []) (hr : Room j A) (hA : ∀ s H, Env0 X.prog X.w X.K X.mg X.base X.A X.stack s H → Env0 X.prog X.w X.K X.mg X.base A X.stack s H)
    {G H : Hp} {s : Shared} {its : List Value} {xs : List V} {ds : List PyData} {P : PySem.Fin → Shared → Prop}
    (I : L2.Inv X ((a, seqObj "list" #[] e1) :: pins) σ (upd H kS (.lst [])) s) (gh : Same G H) (hkH : H kS = none) (hka : kS ≠ a) (hkG : G kS = none)
    (rv : Vals xs its) (da : DpAll X.K G xs ds) (hZ : ds.length ≤ sizeLine) (hall : ∀ d, d ∈ ds → (g [d]).isSome = true) (hal : PySem.W.AllAlike (ds.map (keyD g))) (hsk : PySem.W.Sortable (ds.map (keyD g))) (hu : ∀ d, d ∈ ds.map (keyD g) → A.units + d.depth < cLine)
    (h : ∀ (G' H' : Hp) (s' : Shared) (ks : List V), L2.Inv X ((a, seqObj "list" #[] e1) :: pins) σ H' s' → Stp G H G' H' → H' kS = some (.lst ks) → G' kS = none → ∃ h₁ : Heap, PySem.W.KeepsBut a h₁ s'.heap ∧ h₁.get? kS = none ∧ ∀ (h' : Heap) (tk : Nat) (out : List Value) (c : Nat), PySem.W.KeepsBut a h₁ h' → h'.get? a = some (seqObj "list" (List.toArray out) c) → PySem.W.KeyedOut false (ds.map (keyD g)) its out → P (.done (.ret .none)) { s' with heap := h', toks := tk }) :
    wpAny (model X.prog X.w) A (ksk_rest a (.ref f) false its.toArray e1 (.ref kS)) P E s := by
  unfold ksk_rest
  refine wpAny_bind (wpAny_rule ?_)
  first
    | rw [List.forIn_toArray]
    | (rw [← Array.forIn_toList]; simp only [List.toList_toArray])
    | rw [← Array.forIn_toList]
  refine wpAny_bind (ksk_fold (fun i s' => ∃ G' H' ks, L2.Inv X ((a, seqObj "list" #[] e1) :: pins) σ H' s' ∧ Stp G H G' H' ∧ H' kS = some (.lst ks) ∧ G' kS = none ∧ DpAll X.K G' ks ((ds.map (keyD g)).take i)) its 0 s
    ⟨G, _, [], I, Stp.new gh hkH, upd_same, hkG, by rw [List.take_zero]; exact .nil⟩ ?step ?done)
  case step =>
    rintro i u s' hx ⟨G', H', ks, I', st, hk, gk, dk⟩
    simp only [Nat.zero_add] at dk ⊢
    obtain ⟨v, hv, rvu⟩ : ∃ v, xs[i]? = some v ∧ RelV v u := by
      have hlen := rv.length
      have hi : i < xs.length := by rw [hlen]; exact (List.getElem?_eq_some_iff.mp hx).1
      obtain ⟨u', hu', r⟩ := rv.get (List.getElem?_eq_getElem hi)
      rw [hx] at hu'; cases hu'
      exact ⟨_, List.getElem?_eq_getElem hi, r⟩
    obtain ⟨d, hd, dv⟩ := da.getV hv
    have hmem := List.mem_of_getElem? hd
    have hg := hall d hmem
    obtain ⟨kd, hkd⟩ := Option.isSome_iff_exists.mp hg
    have hkk : keyD g d = kd := by unfold keyD; rw [hkd]; rfl
    refine wpAny_bind (wpAny_attempt (wpAny_call (codeAny_mono (F.run A X.stack s' H' ⟨[u], []⟩ [u] [v] (fun y H2 => ∃ G2, Stp G' H' G2 H2 ∧ Dp X.K G2 y kd) E0 hr (hA _ _ I'.env0) ?_ (.cons rvu .nil) ⟨G', [d], kd, st.gh, .cons (dp_mono st.gg _ _ dv) .nil, hkd, fun y G2 H2 s2 d2 => ⟨G2, s2, d2⟩⟩) fun r s'' hq => ?_)))
    · have := hb s' [u] I'.kIn rfl
      simpa using this
    cases r with
    | error e => exact False.elim hq
    | ok fl =>
      cases fl with
      | next => exact False.elim hq
      | brk => exact False.elim hq
      | cont => exact False.elim hq
      | ret w =>
        obtain ⟨y, H2, I2, ry, G2, s2, d2⟩ := I'.after hq
        have hk2 : H2 kS = some (.lst ks) := s2.hh _ _ hk
        have gk2 : G2 kS = none := s2.sep kS (by rw [hk]; exact fun z => nomatch z) gk
        obtain ⟨z2, ws, n, rw2, lw, ew⟩ := I2.lstM hk2
        have hil : i < ds.length := (List.getElem?_eq_some_iff.mp hd).1
        have hkl : ks.length ≤ i := by rw [dk.length, List.length_take]; omega
        have hz : ws.toArray.size ≤ sizeLine := by rw [List.size_toArray, ← lw]; omega
        refine wpAny_bind (listUpdate_at ew rfl ?_ hz (by rw [Array.size_push]; omega))
        refine wpAny_pure ⟨rfl, G2, upd H2 kS (.lst (ks ++ [y])), ks ++ [y], I2.lset (its' := ws ++ [w]) hk2 ew (by simp) (rw2.append (.cons ry .nil)) (by rw [List.length_append, List.length_singleton]; omega), ?_, upd_same, gk2, ?_⟩
        · have s3 := st.trans s2
          refine ⟨fun b o q => ?_, s3.gg, fun b o q => ?_, s3.sep⟩
          · rw [upd_ne (fun z => by subst z; rw [hkH] at q; cases q)]; exact s3.hh b o q
          · rw [upd_ne (fun z => by subst z; rw [gk2] at q; cases q)]; exact s3.gh b o q
        · have e3 : (ds.map (keyD g)).take (i + 1) = (ds.map (keyD g)).take i ++ [kd] := by
            rw [List.take_add_one, List.getElem?_map, hd]
            simp [hkk]
          rw [e3]
          exact (dpAll_mono s2.gg _ _ dk).append (.cons d2 .nil)
  case done =>
    rintro s' ⟨G', H', ks, I', st, hk, gk, dk⟩
    have e3 : (ds.map (keyD g)).take (0 + its.length) = ds.map (keyD g) := List.take_of_length_le (by rw [List.length_map, ← rv.length, da.length]; omega)
    rw [e3] at dk
    obtain ⟨z2, ws, n, rw2, lw, ew⟩ := I'.lstM hk
    have hsz : ws.toArray.size = its.length := by
      have l1 := dk.length
      rw [List.length_map] at l1
      rw [List.size_toArray, ← lw, l1, ← rv.length, da.length]
    have hr2 := each_dp rfl I' st.gh dk rw2
    have hr3 : PySem.W.EachIs (fun v k => ∃ as, Reads s'.heap v k as) ws.toArray.toList (ds.map (keyD g)) := hr2.mono fun _ _ ⟨_, _, _, z⟩ => z
    have ha := (I'.pin (a, seqObj "list" #[] e1) (by simp)).1
    refine wpAny_bind (listItems_at ew rfl ?_)
    obtain ⟨h₁, kp1, hkS, h⟩ := h G' H' s' ks I' st hk gk
    refine PySem.W.keyH_end (κ := PySem.W.dataKind s'.heap (ds.map (keyD g))) (h₁ := h₁) kp1 hkS ew ha hka (PySem.W.SortsAt.data hr3 hal hsk hu) hsz (by rw [← rv.length, da.length]; exact hZ) fun h3 tk3 c k3 n3 => ?_
    exact h h3 tk3 _ c k3 n3 ⟨s'.heap, ws.toArray.toList, hal, rfl, hr3⟩
/-- the same heap, another state beside it -/
theorem inv_heap {X : Cx} {pins : List (Addr × Obj)} {σ : L2.St} {H H2 : Hp} {pins2 : List (Addr × Obj)} {σ2 : L2.St} {s s' : Shared} {h' : Heap} {tk tk' : Nat} (J : L2.Inv X pins σ H { s with heap := h', toks := tk }) (I : L2.Inv X pins2 σ2 H2 s') : L2.Inv X pins σ H { s' with heap := h', toks := tk' } :=
  ⟨J.ok, I.os, I.bare, J.base, J.loc, J.cell, J.free, J.freeC, J.pin, J.hok, J.len⟩
/-- the heap read without some new objects, that are not tracked or are tracked lists -/
def dropH (bad : Addr → Bool) (H : Hp) : Hp := fun b => if bad b = true then none else H b
theorem dropH_ne {bad : Addr → Bool} {H : Hp} {b : Addr} (h : bad b = false) : dropH bad H b = H b := by unfold dropH; rw [h]; rfl
theorem dropH_bad {bad : Addr → Bool} {H : Hp} {b : Addr} (h : bad b = true) : dropH bad H b = none := by unfold dropH; rw [if_pos h]
theorem inv_drop {X : Cx} {pins pins' : List (Addr × Obj)} {σ : L2.St} {H : Hp} {s : Shared} {bad : Addr → Bool} (I : L2.Inv X pins σ H s) (h0 : ∀ b, bad b = true → X.s_0.heap.objs.size ≤ b) (hl : bad X.env.locals = false)
    (hc : ∀ x c, X.env.cells.lookup x = some c → bad c = false) (hp : ∀ p ∈ X.pn ++ pins', bad p.1 = false) (hs : ∀ p ∈ pins', p ∈ pins) (hH : ∀ b, bad b = true → H b = none ∨ ∃ xs, H b = some (.lst xs)) :
    ∃ G : Heap, (∀ b o, bad b = false → s.heap.get? b = some o → G.get? b = some o) ∧ (∀ b, bad b = true → G.get? b = none) ∧ (∀ b o, G.get? b = some o → s.heap.get? b = some o) ∧ L2.Inv X pins' σ (dropH bad H) { s with heap := G } := by
  obtain ⟨G, g1, g2⟩ := restrict s.heap fun b => !bad b
  have gk : ∀ b o, bad b = false → s.heap.get? b = some o → G.get? b = some o := fun b o hb e => by rw [g1 b (by rw [hb]; rfl)]; exact e
  have ga : ∀ b, bad b = true → G.get? b = none := fun b hb => g2 b (by rw [hb]; rfl)
  have ne0 : ∀ b o, X.s_0.heap.get? b = some o → bad b = false := fun b o e => by
    cases z : bad b with
    | false => rfl
    | true => exact absurd (Heap.lt_size e) (Nat.not_lt_of_le (h0 b z))
  have neX : ∀ b o, H b = some o → (∀ xs, o ≠ .lst xs) → bad b = false := fun b o e n => by
    cases z : bad b with
    | false => rfl
    | true =>
      rcases hH b z with q | ⟨xs, q⟩
      · rw [q] at e; cases e
      · rw [q] at e; cases e; exact absurd rfl (n xs)
  have cellK : ∀ x c, X.env.cells.lookup x = some c → ∀ v, s.heap.IsCell c v → G.IsCell c v := fun x c e v ⟨o, ho, hd⟩ => ⟨o, gk c o (hc x c e) ho, hd⟩
  have gs : ∀ b o, G.get? b = some o → s.heap.get? b = some o := fun b o e => by
    cases z : bad b with
    | false => rw [← g1 b (by rw [z]; rfl)]; exact e
    | true => rw [ga b z] at e; cases e
  refine ⟨G, gk, ga, gs, ⟨I.ok, I.os, I.bare, ⟨fun b o e n hb hq => ?_, fun b o e n hb hq => ?_, fun b o e n hq => ?_, fun b o e hq => ?_, fun b xs e => ?_, fun b o u e => ?_, fun b ps e => ?_⟩, ?_, fun x c e => ?_, ?_, fun x c e => ?_, fun p hpp => ?_, fun b u e => ?_, I.len⟩⟩
  · exact gk b o (ne0 b o e) (I.base.keep b o e n hb hq)
  · obtain ⟨sl, q⟩ := I.base.slot b o e n hb hq
    exact ⟨sl, gk b _ (ne0 b o e) q⟩
  · rw [dropH_ne (ne0 b o e)]
    exact I.base.free b o e n hq
  · obtain ⟨o', q⟩ := I.base.there b o e hq
    exact ⟨o', gk b o' (ne0 b o e) q⟩
  · have q := I.base.tups b xs e
    rw [dropH_ne (neX b _ q fun _ z => nomatch z)]
    exact q
  · have q := I.base.frzs b o u e
    rw [dropH_ne (neX b _ q fun _ z => nomatch z)]
    exact q
  · obtain ⟨m, q⟩ := I.base.tbls b ps e
    exact ⟨m, by rw [dropH_ne (neX b _ q fun _ z => nomatch z)]; exact q⟩
  · obtain ⟨m, ⟨o, es, ep, ho, r⟩, hl'⟩ := I.loc
    refine ⟨m, ⟨o, es, ep, gk _ _ hl ho, r⟩, fun i x v e1 e2 e3 => ?_⟩
    obtain ⟨u, r', l⟩ := hl' i x v e1 e2 e3
    refine ⟨u, r', ?_⟩
    rcases l with l | ⟨k, c, ec, z⟩
    · exact .inl l
    · exact .inr ⟨k, c, ec, cellK x c ec _ z⟩
  · obtain ⟨v, z⟩ := I.cell x c e
    exact ⟨v, cellK x c e v z⟩
  · rw [dropH_ne hl]
    exact I.free
  · rw [dropH_ne (hc x c e)]
    exact I.freeC x c e
  · have hb := hp p hpp
    obtain ⟨e, n, ne, nf, d⟩ := I.pin p ((List.mem_append.mp hpp).elim (fun z => List.mem_append_left _ z) fun z => List.mem_append_right _ (hs p z))
    exact ⟨gk _ _ hb e, by rw [dropH_ne hb]; exact n, ne, nf, d⟩
  · have hb : bad b = false := by
      cases z : bad b with
      | false => rfl
      | true => rw [dropH_bad z] at e; cases e
    rw [dropH_ne hb] at e
    refine (I.hok b u e).stay (fun c v hc q => gk c v ?_ q) (fun c q => ?_) fun c xs q => ?_
    · rcases hc with z | z
      · rw [z]; exact hb
      · exact neX _ _ z fun _ z => nomatch z
    · rw [dropH_ne (neX c _ q fun _ z => nomatch z)]; exact q
    · rw [dropH_ne (neX c _ q fun _ z => nomatch z)]; exact q
/-- sorted(xs, key=f) -/
theorem c_sortedK {X : Cx} {j : Nat} {f : Addr} {fd : FuncData} {p : Str} {g : List PyData → Option PyData} (F : FnOk X.prog X.w X.K X.mg X.base CX0 j f fd [p] (spD X.K g)) (hb : Binds X.K fd [p] []) (hr : Room (j + 2) X.A) :
    CallRK X (.builtin "sorted") [Str.ofString "key"] (fun vs zs H Q => zs = [.ref f] ∧ rLo X.K (dSortK g) vs H Q) := by
  intro pins s σ H vs zs us ws Q I r rz ⟨ez, G, ds, d, gh, b, eg, q⟩
  subst ez
  have hr2 : Room j X.A.in1.in1 := (show Room (j + 1) X.A.in1 from Room.in1 hr).in1
  unfold dSortK at eg
  split at eg
  · rename_i xs
    split at eg
    · rename_i hok
      cases eg
      rw [Bool.and_eq_true] at hok
      obtain ⟨v, rfl, bv⟩ := b.one
      obtain ⟨l, vs', rfl, hp, da⟩ := bv.list gh
      rw [Vals.ref1 r, Vals.ref1 rz]
      obtain ⟨its, rv, pl, hz⟩ := I.list hp
      obtain ⟨k1, k2, k3⟩ := sortOk_of hok.2
      have hall : ∀ d, d ∈ xs → (g [d]).isSome = true := by simpa using hok.1
      have hl : xs.length = vs'.length := da.length.symm
      have ha0 : s.heap.objs.size ≤ s.heap.objs.size + 1 := Nat.le_succ _
      show wpAny (model X.prog X.w) X.A (call (.builtin "sorted") [.ref l] [(Str.ofString "key", .ref f)]) _ _ _
      refine PySem.W.sorted_of_sort pl.isList (by rw [← rv.length]; exact hz) (ksk_s1 _ _) (fun _ => ksk_l1 _ _) fun E' => ?_
      rw [ksk_t1]
      have ho := PySem.W.copyHeap_at s.heap its
      generalize ha : s.heap.objs.size + 1 = a at ho ha0
      have hsz : ((PySem.W.copyHeap s.heap its).update a (Obj.mapSeq fun _ => #[])).objs.size = (PySem.W.copyHeap s.heap its).objs.size := Heap.size_update _ _ _
      have hlt : a < (PySem.W.copyHeap s.heap its).objs.size := Heap.lt_size ho
      obtain ⟨e1, ho1⟩ : ∃ e1, ((PySem.W.copyHeap s.heap its).update a (Obj.mapSeq fun _ => #[])).get? a = some (seqObj "list" #[] e1) := ⟨_, get?_update_seq ho (fun _ => #[])⟩
      have old : ∀ b o, s.heap.get? b = some o → (PySem.W.sortingHeap (PySem.W.copyHeap s.heap its) a its).get? b = some o := fun b o e =>
        PySem.W.sortingHeap_old (Nat.ne_of_lt (Nat.lt_of_lt_of_le (Heap.lt_size e) ha0)) (PySem.W.copyHeap_old e)
      unfold ksk_tree
      refine wpAny_bind (listItems_at ho rfl ?_)
      refine wpAny_bind (listUpdate_at ho rfl ?_ (by rw [List.size_toArray, ← rv.length]; exact hz) (Nat.zero_le _))
      refine wpAny_bind (seqEpoch_at ho1 rfl ?_)
      refine wpAny_bind (wpAny_newTuple ?_ (by show its.length ≤ _; rw [← rv.length]; exact hz))
      refine wpAny_bind (wpAny_newList ?_ (Nat.zero_le _))
      refine wpAny_holding ?_
      have hS : (((PySem.W.copyHeap s.heap its).update a (Obj.mapSeq fun _ => #[])).push (seqObj "tuple" its.toArray 0)).objs.size = (PySem.W.copyHeap s.heap its).objs.size + 1 := by rw [size_push', hsz]
      have hnS : (PySem.W.sortingHeap (PySem.W.copyHeap s.heap its) a its).get? ((((PySem.W.copyHeap s.heap its).update a (Obj.mapSeq fun _ => #[])).push (seqObj "tuple" its.toArray 0)).objs.size) = some (seqObj "list" #[] 0) := Heap.get?_push_size _ rfl
      have hna : (PySem.W.sortingHeap (PySem.W.copyHeap s.heap its) a its).get? a = some (seqObj "list" #[] e1) := Heap.get?_push_of_some _ (Heap.get?_push_of_some _ ho1)
      generalize hkS : (((PySem.W.copyHeap s.heap its).update a (Obj.mapSeq fun _ => #[])).push (seqObj "tuple" its.toArray 0)).objs.size = kS at hS hnS
      have hkle : s.heap.objs.size ≤ kS := by omega
      have hka : kS ≠ a := by omega
      have haH : H a = none := I.hok.fresh ha0
      have hkH : H kS = none := I.hok.fresh hkle
      have hak : s.heap.get? a = none := Heap.get?_none_of_le ha0
      have hkk : s.heap.get? kS = none := Heap.get?_none_of_le hkle
      have I1 : L2.Inv X pins σ (upd H kS (.lst [])) { s with heap := PySem.W.sortingHeap (PySem.W.copyHeap s.heap its) a its } :=
        I.laid (t' := s.toks) (o := .lst []) old hkle ⟨Nat.zero_le _, [], 0, .nil, hnS⟩
      have hloc : a ≠ X.env.locals := Nat.ne_of_gt (Nat.lt_of_lt_of_le I.lt ha0)
      have hfs : a ∉ X.fs := I.nofs ha0
      have I2 : L2.Inv X ((a, seqObj "list" #[] e1) :: pins) σ (upd H kS (.lst [])) { s with heap := PySem.W.sortingHeap (PySem.W.copyHeap s.heap its) a its } := I1.pins_of fun z hz => by
        rcases List.mem_cons.mp hz with rfl | hz
        · exact ⟨hna, by rw [upd_ne (Ne.symm hka)]; exact haH, hloc, hfs, fun v => by intro z; cases z⟩
        · exact I1.pin z (List.mem_append_right _ hz)
      show wpAny (model X.prog X.w) X.A.in1.in1 (ksk_rest a (.ref f) false its.toArray e1 (.ref kS)) _ E' { s with heap := PySem.W.sortingHeap (PySem.W.copyHeap s.heap its) a its }
      refine keyS_rest F hb hr2 (fun _ _ e => e.in1.in1) I2 gh hkH hka (gh.free hkH) rv da (by rw [hl]; exact hz) hall k1 k2 (fun d hd => ?_) fun G' H' s' ks I' st hk gk => ?_
      · have h1 := k3 d hd
        have h2 := hr.un
        show X.A.units + 2 + d.depth < cLine
        omega
      · have small : ∀ b, b < s.heap.objs.size → (b == kS || b == a) = false := fun b hb => by
          rw [Bool.or_eq_false_iff, beq_eq_false_iff_ne, beq_eq_false_iff_ne]; exact ⟨by omega, by omega⟩
        have haH' : H' a = none := (I'.pin (a, seqObj "list" #[] e1) (by simp)).2.1
        obtain ⟨h₁, g1, g2, hsub, J⟩ := inv_drop (pins' := pins) (bad := fun b => b == kS || b == a) I' (fun b z => by
            have hsz := I.sz
            rw [Bool.or_eq_true, beq_iff_eq, beq_iff_eq] at z
            rcases z with rfl | rfl <;> omega) (small _ I.lt) (fun x c e => small _ (by obtain ⟨v, o, ho, _⟩ := I.cell x c e; exact Heap.lt_size ho))
          (fun p hp => small _ (Heap.lt_size (I.pin p hp).1)) (fun p hp => List.mem_cons_of_mem _ hp) (fun b z => by
            rw [Bool.or_eq_true, beq_iff_eq, beq_iff_eq] at z
            rcases z with rfl | rfl
            · exact .inr ⟨_, hk⟩
            · exact .inl haH')
        have hkb : (fun b => b == kS || b == a) kS = true := by simp
        have hab : (fun b => b == kS || b == a) a = true := by simp
        refine ⟨h₁, fun b o hb e => hsub b o e, g2 kS hkb, fun h' tk out c kp hD ko => ⟨rfl, ?_⟩⟩
        have e := each_dp rfl I gh da rv
        have eo := PySem.W.keyedOut_each (keyD g) ko e
        obtain ⟨vs2, r1, d1⟩ := each_back eo
        have hl2 : vs2.length ≤ sizeLine := by
          have h1 := d1.length
          rw [List.length_mergeSort] at h1
          rw [h1, hl]; exact hz
        have hda : dropH (fun b => b == kS || b == a) H' a = none := dropH_bad hab
        have J2 : L2.Inv X pins σ (upd (dropH (fun b => b == kS || b == a) H') a (.lst vs2)) { s' with heap := h', toks := tk } :=
          J.laidN (t' := tk) (fun b o e => kp b o (fun z => by subst z; rw [g2 b hab] at e; cases e) e) (g2 a hab) hda ⟨hl2, out, c, r1, hD⟩
        have ga : G' a = none := st.gh.free haH'
        refine ⟨.ref a, _, J2, rfl, q _ _ G' _ ⟨fun b o e => ?_, st.gg, fun b o e => ?_, st.sep⟩ haH ga upd_same (dpAll_mono st.gg _ _ d1)⟩
        · rw [upd_ne (ne_of_none e haH), dropH_ne (by
            rw [Bool.or_eq_false_iff, beq_eq_false_iff_ne, beq_eq_false_iff_ne]
            exact ⟨ne_of_none e hkH, ne_of_none e haH⟩)]
          exact st.hh b o e
        · rw [upd_ne (ne_of_none e ga), dropH_ne (by
            rw [Bool.or_eq_false_iff, beq_eq_false_iff_ne, beq_eq_false_iff_ne]
            exact ⟨ne_of_none e gk, ne_of_none e ga⟩)]
          exact st.gh b o e
    · cases eg
  · cases eg
section
variable {X : Cx} {e : Expr} {pos p q kp : Pos} {O : Os} {L : Fl} {g : List PyData → Option PyData} {k j : Nat} {x : Str} {y : Str}
theorem o_sortK (D : Kn X.prog X.w X.K X.mg X.base x k [y] g) (hr : Room j X.A) (hj : k + 2 ≤ j) (hgx : Gl X x) (hg : Gl X "sorted") (hm : X.mg "sorted" = none) (hv : bootBuiltins "sorted" = some (.builtin "sorted")) (ha : PA X [e] (RAb X.K O L))
    (hd : (x == ("__debug__" : Str)) = false := by decide)
    (he : backTo pos (starEach [e] X.env) = (false, eval e X.env) :: backTo pos (starEach [] X.env) := by rfl) (hpl : (backTo pos (starEach [e] X.env)).any (·.1) = false := by rfl)
    (hall : (backToKw pos (keywordEach [⟨some "key", .Name x q, kp⟩] X.env)).all (·.1.isSome) = true := by rfl) (hnone : (backToKw pos (keywordEach [⟨some "key", .Name x q, kp⟩] X.env)).any (·.1.isNone) = false := by rfl) (hks : (backToKw pos (keywordEach [⟨some "key", .Name x q, kp⟩] X.env)).filterMap (·.1) = [Str.ofString "key"] := by rfl) :
    PE X (.Call (.Name "sorted" p) [e] [⟨some "key", .Name x q, kp⟩] pos) (RO X.K O (fL (dSortK g) L)) := by
  obtain ⟨f, fd, G, a, b, c⟩ := D
  refine pe_imp (pe_callBK (c_sortedK (j := k) G c (hr.mono hj)) hg hm hv ha (pk_cons (pe_glob (v := .ref f) hgx a rfl hd) pk_nil) (by decide) (by decide) he hpl hall hnone hks) fun σ H Q h => ?_
  obtain ⟨Γ, G0, ρ, ys, R, ef, q⟩ := h
  obtain ⟨ds, e1, e2⟩ := fL_some ef
  exact ⟨Γ, G0, ρ, ds, R, e1, fun vs G1 H1 s1 b => ⟨rfl, G1, ds, ys, s1.gh, b, e2, fun p xs G' H' s n g hp da => q p xs G' H' (s1.trans s) (s1.hh.free n) g hp da⟩⟩
end
end Dat
open PySem PySem.Spec PyProof.Rows L2
namespace Dat
/-! ### keys in the heap -/
mutual
theorem nested_of {h : Heap} : ∀ (d : PyData) (v : Value) (as : List Addr) (k : NestedKey), Reads h v d as → nk d = some k → NestedIs h k v
  | .none, _, _, _, r, e => by cases r; simp only [nk] at e; cases e; exact .none
  | .bool b, _, _, _, r, e => by cases r; simp only [nk] at e; cases e; exact .bool rfl
  | .int i, _, _, _, r, e => by cases r; simp only [nk] at e; cases e; exact .int _ _
  | .str x, _, _, _, r, e => by cases r; simp only [nk] at e; cases e; exact .text _ _
  | .tuple ds, _, _, _, r, e => by
    cases r with
    | tuple h1 h2 h3 h4 =>
      simp only [nk] at e
      cases q : nkAll ds with
      | none => rw [q] at e; cases e
      | some ks => rw [q] at e; cases e; exact .tup h1 h2 h3 (nestedAll_of ds _ _ ks h4 q)
  | .list ds, _, _, _, r, e => by simp only [nk] at e; cases e
  | .dict ds, _, _, _, r, e => by simp only [nk] at e; cases e
theorem nestedAll_of {h : Heap} : ∀ (ds : List PyData) (vs : List Value) (as : List Addr) (ks : List NestedKey), ReadsAll h vs ds as → nkAll ds = some ks → NestedAll h ks vs
  | [], _, _, _, r, e => by cases r; simp only [nkAll] at e; cases e; exact .nil
  | d :: ds, _, _, _, r, e => by
    cases r with
    | cons r1 r2 =>
      simp only [nkAll] at e
      cases q : nk d with
      | none => rw [q] at e; simp at e
      | some k =>
        cases q2 : nkAll ds with
        | none => rw [q, q2] at e; simp at e
        | some ks => rw [q, q2] at e; cases e; exact .cons (nested_of d _ _ k r1 q) (nestedAll_of ds _ _ ks r2 q2)
end
/-! ### a dict over data -/
def kvGet (kvs : List (PyData × PyData)) (k : NestedKey) : Option PyData := (kvs.find? fun p => decide (nk p.1 = some k)).map (·.2)
def kvPut (k : NestedKey) (v : PyData) (p : PyData × PyData) : PyData × PyData := if nk p.1 = some k then (p.1, v) else p
def kvSet (kvs : List (PyData × PyData)) (d : PyData) (k : NestedKey) (v : PyData) : List (PyData × PyData) := if (kvGet kvs k).isSome then kvs.map (kvPut k v) else kvs ++ [(d, v)]
abbrev TPr (x : TEnt) (y : NestedKey × Addr × Value) : Prop := x.1 = y.1 ∧ x.2.1 = y.2.1 ∧ RelV x.2.2 y.2.2
def xPut (k : NestedKey) (v : V) (x : TEnt) : TEnt := if x.1 = k then (x.1, x.2.1, v) else x
section
variable {K : PySem.W.Frag} {G : Hp} {k : NestedKey} {a : Addr} {v : V} {u : Value} {d vd : PyData}
theorem tab_get : ∀ {xs : List TEnt} {ys : List (NestedKey × Addr × Value)} {kvs : List (PyData × PyData)}, Ents K G xs kvs → Paired TPr xs ys →
    (∀ vd, kvGet kvs k = some vd → ∃ a v u, atKey ys k = some (a, u) ∧ RelV v u ∧ Dp K G v vd) ∧ (kvGet kvs k = none → atKey ys k = none)
  | _, _, _, .nil, .nil => ⟨fun _ h => (by simp [kvGet] at h), fun _ => rfl⟩
  | x :: xs, y :: ys, p :: kvs, .cons h t, .cons r rr => by
    obtain ⟨i1, i2⟩ := tab_get t rr
    unfold kvGet atKey at *
    by_cases e : x.1 = k
    · have e1 : nk p.1 = some k := by rw [h.2.1, e]
      have e2 : y.1 = k := by rw [← r.1, e]
      rw [List.find?_cons_of_pos (by simpa using e1), List.find?_cons_of_pos (by simpa using e2)]
      exact ⟨fun vd q => ⟨y.2.1, x.2.2, y.2.2, rfl, r.2.2, by cases q; exact h.2.2.2⟩, fun q => nomatch q⟩
    · have e1 : ¬ nk p.1 = some k := by rw [h.2.1]; exact fun z => e (Option.some.inj z)
      have e2 : ¬ y.1 = k := by rw [← r.1]; exact e
      rw [List.find?_cons_of_neg (by simpa using e1), List.find?_cons_of_neg (by simpa using e2)]
      exact ⟨i1, i2⟩
theorem tab_put (rv : RelV v u) (dv : Dp K G v vd) : ∀ {xs : List TEnt} {ys : List (NestedKey × Addr × Value)} {kvs : List (PyData × PyData)}, Ents K G xs kvs → Paired TPr xs ys →
    Ents K G (xs.map (xPut k v)) (kvs.map (kvPut k vd)) ∧ Paired TPr (xs.map (xPut k v)) (ys.map (putAt k u))
  | _, _, _, .nil, .nil => ⟨.nil, .nil⟩
  | x :: xs, y :: ys, p :: kvs, .cons h t, .cons r rr => by
    obtain ⟨i1, i2⟩ := tab_put rv dv t rr
    simp only [List.map_cons]
    by_cases e : x.1 = k
    · have e1 : nk p.1 = some k := by rw [h.2.1, e]
      have e2 : y.1 = k := by rw [← r.1, e]
      unfold xPut kvPut putAt at *
      rw [if_pos e, if_pos e1, if_pos e2]
      exact ⟨.cons ⟨h.1, h.2.1, h.2.2.1, dv⟩ i1, .cons ⟨r.1, r.2.1, rv⟩ i2⟩
    · have e1 : ¬ nk p.1 = some k := by rw [h.2.1]; exact fun z => e (Option.some.inj z)
      have e2 : ¬ y.1 = k := by rw [← r.1]; exact e
      unfold xPut kvPut putAt at *
      rw [if_neg e, if_neg e1, if_neg e2]
      exact ⟨.cons h i1, .cons r i2⟩
theorem paired_len {α β : Type} {F : α → β → Prop} {xs : List α} {ys : List β} (h : Paired F xs ys) : xs.length = ys.length := Paired.length h
theorem tpr_keys : ∀ {xs : List TEnt} {ys : List (NestedKey × Addr × Value)}, Paired TPr xs ys → xs.map (·.1) = ys.map (·.1)
  | _, _, .nil => rfl
  | _, _, .cons r rr => by rw [List.map_cons, List.map_cons, r.1, tpr_keys rr]
theorem ents_at {x : TEnt} : ∀ {xs : List TEnt} {kvs : List (PyData × PyData)}, Ents K G xs kvs → x ∈ xs → ∃ p, p ∈ kvs ∧ Ent K G x p
  | _, _, .nil, m => nomatch m
  | _, _, .cons h t, m => by
    rcases List.mem_cons.mp m with rfl | m
    · exact ⟨_, by simp, h⟩
    · obtain ⟨p, hp, e⟩ := ents_at t m
      exact ⟨p, by simp [hp], e⟩
theorem tpr_at {y : NestedKey × Addr × Value} : ∀ {xs : List TEnt} {ys : List (NestedKey × Addr × Value)}, Paired TPr xs ys → y ∈ ys → ∃ x, x ∈ xs ∧ TPr x y
  | _, _, .nil, m => nomatch m
  | _, _, .cons h t, m => by
    rcases List.mem_cons.mp m with rfl | m
    · exact ⟨_, by simp, h⟩
    · obtain ⟨p, hp, e⟩ := tpr_at t m
      exact ⟨p, by simp [hp], e⟩
end
section
variable {X : Cx} {pins : List (Addr × Obj)} {σ : L2.St} {G H : Hp} {s : Shared} {d : Addr} {xs : List TEnt} {kvs : List (PyData × PyData)}
/-- the dict that stands there -/
theorem tab_dict (I : L2.Inv X pins σ H s) (e : H d = some (tabO X.w d xs)) (gh : Same G H) (n : (xs.map (·.1)).Nodup) (es : Ents X.K G xs kvs) :
    ∃ ys, s.heap.DictOfH (nestedKind X.prog X.w) d ys ∧ Paired TPr xs ys := by
  obtain ⟨⟨ys, rr, o, es', ep, h1, h2, h3, h4⟩, _, _⟩ := I.hok d _ e
  refine ⟨ys, ⟨o, es', ep, h1, h2, h3, h4, fun y hy => ?_, by rw [← tpr_keys rr]; exact n⟩, rr⟩
  obtain ⟨x, hx, t1, t2, t3⟩ := tpr_at rr hy
  obtain ⟨p, hp, p1, p2, p3, p4⟩ := ents_at es hx
  obtain ⟨as, r⟩ := Dp.reads I p.1 (.ref x.2.1) (.ref x.2.1) (dp_mono gh _ _ p1) rfl
  rw [← t1, ← t2]
  exact ⟨nested_of p.1 _ as x.1 r p2, p3⟩
/-- the key of a tuple -/
theorem tab_key (I : L2.Inv X pins σ H s) {v : V} {u : Value} {ds : List PyData} {k : NestedKey} (rv : RelV v u) (dv : Dp X.K H v (.tuple ds)) (ek : nk (.tuple ds) = some k) (hd : k.depth ≤ 8) : ∃ a, v = .ref a ∧ u = .ref a ∧ (nestedKind X.prog X.w).is s.heap k a := by
  obtain ⟨as, r⟩ := Dp.reads I _ v u dv rv
  cases dv with
  | tup h1 h2 =>
    cases rv
    exact ⟨_, rfl, rfl, nested_of _ _ as k r ek, hd⟩
theorem tab_ok {P : Program} {w : World} {H' : Hp} {h' : Heap} {ys : List (NestedKey × Addr × Value)} (hx : h'.DictOfH (nestedKind P w) d ys) (rr : Paired TPr xs ys) : ObjOk P w H' h' d (tabO w d xs) := by
  obtain ⟨o, es, ep, h1, h2, h3, h4, _, _⟩ := hx
  refine ⟨⟨ys, rr, o, es, ep, h1, h2, h3, h4⟩, ⟨o, h1⟩, fun g1 g2 ⟨ys', rr', o', es', ep', q1, q2⟩ k => ⟨ys', rr', o', es', ep', k _ q1, q2⟩⟩
/-- the key a value makes, of tuples alone, not deep -/
def keyOf (d : PyData) : Option NestedKey := match d with
  | .tuple ds => match nk (.tuple ds) with
    | some k => if k.depth ≤ 8 then some k else none
    | none => none
  | _ => none
theorem keyOf_some {d : PyData} {k : NestedKey} (h : keyOf d = some k) : ∃ ds, d = .tuple ds ∧ nk d = some k ∧ k.depth ≤ 8 := by
  unfold keyOf at h
  split at h
  · split at h
    · split at h
      · cases h; exact ⟨_, rfl, by assumption, by assumption⟩
      · cases h
    · cases h
  · cases h
/-- key in dict; dict[key] -/
def rTabIn (K : PySem.W.Frag) (w : World) : R2 := fun x y H Q => ∃ G d k p xs kvs, Same G H ∧ Dp K H x d ∧ keyOf d = some k ∧ y = .ref p ∧ H p = some (tabO w p xs) ∧ (p == sysModules) = false ∧ (xs.map (·.1)).Nodup ∧ Ents K G xs kvs ∧ Q (.bl (kvGet kvs k).isSome) H
def rTabNi (K : PySem.W.Frag) (w : World) : R2 := fun x y H Q => ∃ G d k p xs kvs, Same G H ∧ Dp K H x d ∧ keyOf d = some k ∧ y = .ref p ∧ H p = some (tabO w p xs) ∧ (p == sysModules) = false ∧ (xs.map (·.1)).Nodup ∧ Ents K G xs kvs ∧ Q (.bl !(kvGet kvs k).isSome) H
theorem op_tabIn (hu : X.A.units + 200 < cLine) : OpR X (compareOp .In) (rTabIn X.K X.w) := by
  intro pins s σ H x y v u Q I rx ry ⟨G, d, k, p, xs, kvs, gh, dx, ek, ey, hp, hs, n, es, q⟩
  subst ey
  cases ry
  obtain ⟨ds, rfl, e1, e2⟩ := keyOf_some ek
  obtain ⟨a, rfl, rfl, hk⟩ := tab_key I rx dx e1 e2
  obtain ⟨ys, hx, rr⟩ := tab_dict I hp gh n es
  obtain ⟨g1, g2⟩ := tab_get (k := k) es rr
  refine wpAny_in_heap (knd := nestedKind X.prog X.w) (by show X.A.units + 1 + 8 < cLine; omega) hk hs hx ⟨.bl (atKey ys k).isSome, H, I.kept (h' := s.heap) (t' := s.toks + _) fun b o e => e, rfl, ?_⟩
  have e : (atKey ys k).isSome = (kvGet kvs k).isSome := by
    cases z : kvGet kvs k with
    | none => rw [g2 z]; rfl
    | some vd => obtain ⟨_, _, _, h, _⟩ := g1 vd z; rw [h]; rfl
  rw [e]; exact q
theorem op_tabNi (hu : X.A.units + 200 < cLine) : OpR X (compareOp .NotIn) (rTabNi X.K X.w) := by
  intro pins s σ H x y v u Q I rx ry ⟨G, d, k, p, xs, kvs, gh, dx, ek, ey, hp, hs, n, es, q⟩
  subst ey
  cases ry
  obtain ⟨ds, rfl, e1, e2⟩ := keyOf_some ek
  obtain ⟨a, rfl, rfl, hk⟩ := tab_key I rx dx e1 e2
  obtain ⟨ys, hx, rr⟩ := tab_dict I hp gh n es
  obtain ⟨g1, g2⟩ := tab_get (k := k) es rr
  have e : (atKey ys k).isSome = (kvGet kvs k).isSome := by
    cases z : kvGet kvs k with
    | none => rw [g2 z]; rfl
    | some vd => obtain ⟨_, _, _, h, _⟩ := g1 vd z; rw [h]; rfl
  show wpAny _ _ (do return Value.bool (!(← contains (Value.ref p) (Value.ref a)))) _ _ s
  refine wpAny_bind (PySem.wpAny_contains_heap (knd := nestedKind X.prog X.w) (by show X.A.units + 1 + 8 < cLine; omega) hk hs hx (wpAny_pure ⟨.bl !(atKey ys k).isSome, H, I.kept (h' := s.heap) (t' := s.toks + _) fun b o e => e, rfl, ?_⟩))
  rw [e]; exact q
def rTabIx (K : PySem.W.Frag) (w : World) : R2 := fun y x H Q => ∃ G d k p xs kvs vd, Same G H ∧ Dp K H x d ∧ keyOf d = some k ∧ y = .ref p ∧ H p = some (tabO w p xs) ∧ (xs.map (·.1)).Nodup ∧ Ents K G xs kvs ∧ kvGet kvs k = some vd ∧ ∀ v, Dp K G v vd → Q v H
theorem ix_tab (hu : X.A.units + 200 < cLine) : IxR X (rTabIx X.K X.w) := by
  intro value slice pins s σ H y x u v Q I ry rx ⟨G, d, k, p, xs, kvs, vd, gh, dx, ek, ey, hp, n, es, eg, q⟩ hs
  subst ey
  cases ry
  obtain ⟨ds, rfl, e1, e2⟩ := keyOf_some ek
  obtain ⟨a, rfl, rfl, hk⟩ := tab_key I rx dx e1 e2
  obtain ⟨ys, hx, rr⟩ := tab_dict I hp gh n es
  obtain ⟨a', v', u', h1, h2, h3⟩ := (tab_get (k := k) es rr).1 vd eg
  exact tail_any hx.typeIs slot_dict_getitem.lookup (wpAny_getItem_heap (knd := nestedKind X.prog X.w) (by show X.A.units + 1 + 8 < cLine; omega) hk hx h1 ⟨v', H, I.kept (h' := s.heap) (t' := s.toks + _) fun b o e => e, h2, q v' h3⟩) hs
end
section
variable {W : XK} {X : Cx} {e a b : Expr} {es : List Expr} {pos pos' p p2 p3 : Pos} {O O' OL : Os} {F F' : Fd} {L : Fl} {x : Str}
/-! ### a dict of the def's own, read -/
def tabF2 (h : List (PyData × PyData) → NestedKey → Option PyData) (i : Nat) (F : Fd) : Fd := fun ρ => match F ρ, dvGet ρ i with
  | some d, some (.dict kvs) => (keyOf d).bind fun k => h kvs k
  | _, _ => none
def hIn (kvs : List (PyData × PyData)) (k : NestedKey) : Option PyData := some (.bool (kvGet kvs k).isSome)
def hNi (kvs : List (PyData × PyData)) (k : NestedKey) : Option PyData := some (.bool !(kvGet kvs k).isSome)
theorem tabF2_some {h : List (PyData × PyData) → NestedKey → Option PyData} {i : Nat} {ρ : Dv} {y : PyData} (q : tabF2 h i F ρ = some y) : ∃ d kvs k, F ρ = some d ∧ dvGet ρ i = some (.dict kvs) ∧ keyOf d = some k ∧ h kvs k = some y := by
  unfold tabF2 at q
  split at q
  · rename_i d kvs e1 e2
    cases e3 : keyOf d with
    | none => rw [e3] at q; cases q
    | some k => rw [e3] at q; exact ⟨d, kvs, k, e1, e2, e3, q⟩
  · cases q
theorem Rep.tab {K : PySem.W.Frag} {Γ : Gh} {G H : Hp} {σ : L2.St} {ρ : Dv} {i : Nat} {w : World} {kvs : List (PyData × PyData)} (R : Rep K Γ G H O σ ρ) (hi : (i, Kd.tab w) ∈ O) (e : dvGet ρ i = some (.dict kvs)) :
    ∃ q xs, σ[i]? = some (some (.ref q)) ∧ H q = some (tabO w q xs) ∧ (q == sysModules) = false ∧ (xs.map (·.1)).Nodup ∧ Ents K G xs kvs := by
  obtain ⟨fp, h1, h2⟩ := R.ow
  obtain ⟨v, e1, o, n⟩ := h1 i _ _ hi (dvGet_some e)
  generalize fp i = f at o n
  cases o with
  | tab h z nd es => exact ⟨_, _, e1, h, z, nd, es⟩
theorem tabIn_imp {i : Nat} (hi : (i, Kd.tab X.w) ∈ O) {σ : L2.St} {H : Hp} {Q : VK} (h : RD X.K O (tabF2 hIn i F) σ H Q) : tOp (rTabIn X.K X.w) (RD X.K O F) (tVar i) σ H Q := by
  obtain ⟨Γ, G, ρ, d, R, ef, q⟩ := h
  obtain ⟨dk, kvs, k, e1, e2, e3, e4⟩ := tabF2_some ef
  refine ⟨Γ, G, ρ, dk, R, e1, fun v G1 H1 s1 dv => ?_⟩
  obtain ⟨t, xs, f1, f2, f3, f4, f5⟩ := (R.stp s1).tab hi e2
  refine ⟨_, f1, G1, dk, k, t, xs, kvs, s1.gh, dp_mono s1.gh _ _ dv, e3, rfl, f2, f3, f4, f5, ?_⟩
  cases e4
  exact q _ G1 H1 s1 (.bl _)
theorem tabNi_imp {i : Nat} (hi : (i, Kd.tab X.w) ∈ O) {σ : L2.St} {H : Hp} {Q : VK} (h : RD X.K O (tabF2 hNi i F) σ H Q) : tOp (rTabNi X.K X.w) (RD X.K O F) (tVar i) σ H Q := by
  obtain ⟨Γ, G, ρ, d, R, ef, q⟩ := h
  obtain ⟨dk, kvs, k, e1, e2, e3, e4⟩ := tabF2_some ef
  refine ⟨Γ, G, ρ, dk, R, e1, fun v G1 H1 s1 dv => ?_⟩
  obtain ⟨t, xs, f1, f2, f3, f4, f5⟩ := (R.stp s1).tab hi e2
  refine ⟨_, f1, G1, dk, k, t, xs, kvs, s1.gh, dp_mono s1.gh _ _ dv, e3, rfl, f2, f3, f4, f5, ?_⟩
  cases e4
  exact q _ G1 H1 s1 (.bl _)
theorem d_tabIn (i : Nat) (hi : (i, Kd.tab X.w) ∈ O) (hu : X.A.units + 200 < cLine) (ha : PE X a (RD X.K O F)) (hb : PE X b (tVar i)) (hm : behindInMarks .In b = false := by rfl) : PE X (.Compare a [.In] [b] pos) (RD X.K O (tabF2 hIn i F)) :=
  pe_imp (pe_cmpR (op_tabIn hu) ha hb hm) fun σ H Q h => tabIn_imp hi h
theorem d_tabNi (i : Nat) (hi : (i, Kd.tab X.w) ∈ O) (hu : X.A.units + 200 < cLine) (ha : PE X a (RD X.K O F)) (hb : PE X b (tVar i)) (hm : behindInMarks .NotIn b = false := by rfl) : PE X (.Compare a [.NotIn] [b] pos) (RD X.K O (tabF2 hNi i F)) :=
  pe_imp (pe_cmpR (op_tabNi hu) ha hb hm) fun σ H Q h => tabNi_imp hi h
theorem t_tabIn (i : Nat) (hi : (i, Kd.tab X.w) ∈ O) (hu : X.A.units + 200 < cLine) (ha : PE X a (RD X.K O F)) (hb : PE X b (tVar i)) (hm : behindInMarks .In b = false := by rfl) : PT X (.Compare a [.In] [b] pos) (RT X.K O (asB (tabF2 hIn i F))) :=
  pt_imp (pt_cmpR (op_tabIn hu) ha hb hm) fun σ H Q h => rd_test (fun Q' h' => tabIn_imp hi h') h
theorem t_tabNi (i : Nat) (hi : (i, Kd.tab X.w) ∈ O) (hu : X.A.units + 200 < cLine) (ha : PE X a (RD X.K O F)) (hb : PE X b (tVar i)) (hm : behindInMarks .NotIn b = false := by rfl) : PT X (.Compare a [.NotIn] [b] pos) (RT X.K O (asB (tabF2 hNi i F))) :=
  pt_imp (pt_cmpR (op_tabNi hu) ha hb hm) fun σ H Q h => rd_test (fun Q' h' => tabNi_imp hi h') h
theorem d_tabIx (i : Nat) (hi : (i, Kd.tab X.w) ∈ O) (hu : X.A.units + 200 < cLine) (hb : PE X b (tVar i)) (ha : PE X a (RD X.K O F)) (hs : PlainIx a) : PE X (.Subscript b a pos) (RD X.K O (tabF2 kvGet i F)) :=
  pe_imp (pe_ix (ix_tab hu) hb ha hs) fun σ H Q ⟨Γ, G, ρ, d, R, ef, q⟩ => by
    obtain ⟨dk, kvs, k, e1, e2, e3, e4⟩ := tabF2_some ef
    obtain ⟨t, xs, f1, _⟩ := R.tab hi e2
    refine ⟨_, f1, Γ, G, ρ, dk, R, e1, fun v G1 H1 s1 dv => ?_⟩
    obtain ⟨t', xs', g1, g2, g3, g4, g5⟩ := (R.stp s1).tab hi e2
    rw [f1] at g1; cases g1
    exact ⟨G1, dk, k, t, xs', kvs, d, s1.gh, dp_mono s1.gh _ _ dv, e3, rfl, g2, g4, g5, e4, fun v' dv' => q v' G1 H1 s1 dv'⟩
/-! ### len, isinstance -/
def tabL (i : Nat) : Fd := fun ρ => match dvGet ρ i with
  | some (.dict kvs) => if kvs.length < 9223372036854775808 then some (.int kvs.length) else none
  | _ => none
theorem c_tabLen : CallR X (.builtin "len") (fun vs H Q => ∃ G p xs kvs, Same G H ∧ vs = [.ref p] ∧ H p = some (tabO X.w p xs) ∧ (p == sysModules) = false ∧ (xs.map (·.1)).Nodup ∧ Ents X.K G xs kvs ∧ kvs.length < 9223372036854775808 ∧ Q (.int kvs.length) H) := by
  intro pins s σ H vs us Q I r ⟨G, p, xs, kvs, gh, ev, hp, hs, n, es, hl, q⟩
  subst ev
  rw [Vals.ref1 r]
  obtain ⟨ys, hx, rr⟩ := tab_dict I hp gh n es
  have hm : s.heap.DictKeyed (nestedKind X.prog X.w) p (pairsH ys) := ⟨ys, hx, rfl⟩
  obtain ⟨es', ep, hr, hsz, _⟩ := hm.walk
  have hsz2 : es'.size = kvs.length := by rw [hsz, pairsH_length, ← paired_len rr, paired_len es]
  refine Calls.call_function_entry kind_len plain_len entry_len (args_len1 _) ?_
  unfold Builtin.«len»
  refine wpAny_bind (m := oneArg "len" _) (wpAny_pure ?_)
  refine wpAny_bind (m := callSpecial? (.ref p) (Str.ofString "__len__")) (wpAny_callSpecial?_slot (name := Str.ofString "__len__") hr.typeIs F.slot_dict_len
    (call_meetsIn F.slot_dict_len hr.typeIs F.entry_dict_len (F.args_dict_len_1 _) (meets_dict_len_raw p hs) ⟨es', ep, hr, ?_⟩))
  show wpAny _ _ _ _ _ { s with toks := s.toks + 1 }
  refine wpAny_bind (wpAny_holding (wpAny_pure ?_))
  refine wpAny_bind (wpAny_letGo ?_)
  show wpAny _ _ (if ((es'.size : Nat) : Int) < 0 then _ else _) _ _ _
  rw [if_neg (by omega)]
  show wpAny _ _ (if ((es'.size : Nat) : Int) ≥ 2 ^ 63 then _ else _) _ _ _
  rw [if_neg (by omega)]
  refine wpAny_bind (wpAny_mkInt (wpAny_pure ⟨_, rfl, ?_⟩))
  rw [hsz2]
  exact ⟨.int kvs.length, H, I.tok _, ⟨_, rfl⟩, q⟩
theorem d_tabLen (i : Nat) (hi : (i, Kd.tab X.w) ∈ O) (hg : Gl X "len") (hm : X.mg "len" = none) (hv : bootBuiltins "len" = some (.builtin "len")) (hb : PE X b (tVar i))
    (he : starEach [b] X.env = (false, eval b X.env) :: starEach [] X.env := by rfl) (hpl : (backTo pos (starEach [] X.env)).any (·.1) = false := by rfl) : PE X (.Call (.Name "len" p) [b] [] pos) (RD X.K O (tabL i)) :=
  pe_imp (pe_callB c_tabLen hg hm hv (pa_cons hb pa_nil he) (by decide) (by decide) he hpl) fun σ H Q ⟨Γ, G, ρ, d, R, ef, q⟩ => by
    unfold tabL at ef
    split at ef
    · rename_i kvs e2
      split at ef
      · cases ef
        obtain ⟨t, xs, f1, f2, f3, f4, f5⟩ := R.tab hi e2
        exact ⟨_, f1, G, t, xs, kvs, R.gh, rfl, f2, f3, f4, f5, by assumption, q _ G H (Stp.refl R.gh) (.int _)⟩
      · cases ef
    · cases ef
def tabI (i : Nat) : Fd := fun ρ => match dvGet ρ i with
  | some (.dict _) => some (.bool true)
  | _ => none
theorem d_tabIsi {q p' : Pos} (i : Nat) (hi : (i, Kd.tab X.w) ∈ O) (hg : Gl X "isinstance") (hm : X.mg "isinstance" = none) (hgT : Gl X "dict") (hmT : X.mg "dict" = none) (hb : PE X b (tVar i))
    (hs : starEach [b, .Name "dict" q] X.env = (false, eval b X.env) :: starEach [.Name "dict" q] X.env := by rfl) (hs2 : starEach [.Name "dict" q] X.env = (false, eval (.Name "dict" q) X.env) :: starEach [] X.env := by rfl) (hpl : (backTo pos (starEach [.Name "dict" q] X.env)).any (·.1) = false := by rfl)
    (hv : bootBuiltins "isinstance" = some (.builtin "isinstance") := by decide +kernel) (hvT : bootBuiltins "dict" = some (.type "dict") := by decide +kernel) :
    PE X (.Call (.Name "isinstance" p') [b, .Name "dict" q] [] pos) (RD X.K O (tabI i)) := by
  have hc : CallR X (.builtin "isinstance") (fun vs H Q => ∃ p xs, vs = [.ref p, .ty "dict"] ∧ H p = some (tabO X.w p xs) ∧ Q (.bl true) H) := by
    intro pins s σ H vs us Q I r ⟨p, xs, ev, hp, q⟩
    subst ev
    obtain ⟨u1, u2, rfl, r1, r2⟩ := vals2 r
    cases (show u2 = Value.type "dict" from r2)
    cases (show u1 = Value.ref p from r1)
    obtain ⟨⟨ys, rr, o, es', ep, h1, h2, h3, h4⟩, _, _⟩ := I.hok p _ hp
    exact PySem.IsiPair.dict_dict h1 h2.1 ⟨.bl true, H, I.tok _, rfl, q⟩
  refine pe_imp (pe_callB hc hg hm hv (pa_cons hb (pa_cons (pe_bltn (v := .ty "dict") hgT hmT hvT rfl (by decide) (by decide)) pa_nil hs2) hs) (by decide) (by decide) hs hpl) fun σ H Q ⟨Γ, G, ρ, d, R, ef, q⟩ => ?_
  unfold tabI at ef
  split at ef
  · rename_i kvs e2
    cases ef
    obtain ⟨t, xs, f1, f2, f3, f4, f5⟩ := R.tab hi e2
    exact ⟨_, f1, t, xs, rfl, f2, q _ G H (Stp.refl R.gh) (.bl _)⟩
  · cases ef
end
end Dat
open PySem PySem.Spec PyProof.Rows L2
namespace Dat
section
variable {W : XK} {X : Cx} {e a b : Expr} {es : List Expr} {pos pos' p p2 p3 : Pos} {O O' OL : Os} {F F' : Fd} {L : Fl} {x : Str}
/-! ### x = {} -/
def tabNewS (i : Nat) : Bs := setS i (cF (.dict []))
theorem pe_tab0 (w : World) (hw : w = X.w) : PE X (.Dict [] [] pos) (fun _ H Q => ∀ p, H p = none → (p == sysModules) = false → Q (.ref p) (upd H p (tabO w p []))) := by
  subst hw
  refine ⟨fun pins s σ H Q I h => wpAny_Dict_empty ⟨.ref s.heap.objs.size, _, I.laid (a := s.heap.objs.size) (o := tabO X.w s.heap.objs.size []) (t' := s.toks) (fun _ _ q => Heap.get?_push_of_some _ q) (Nat.le_refl _) ?_, rfl, h _ (I.hok.fresh (Nat.le_refl _)) (beq_eq_false_iff_ne.mpr (Ne.symm (Nat.ne_of_lt I.big)))⟩⟩
  exact tab_ok (Heap.DictOfH.new (knd := nestedKind X.prog X.w) s.heap) .nil
theorem s_tab0 {i : Nat} (hN : X.N.Nodup) (hi : X.N[i]? = some x) (hx : Loc X.env.scope x) (hl : lsl i O = true) (hO : O' = insK i (.tab X.w) O) (hs : swapsWith (.Dict [] [] p) (some (.Name x pos')) pos.line X.env = pure false := by rfl) (hf : X.fn x = true ∨ X.env.scope.names.lookup x = some .local := by first | exact .inl rfl | exact .inr rfl | assumption) :
    PS X (.Assign [.Name x pos'] (.Dict [] [] p) pos) (RS X.K W O O' OL (tabNewS i)) := ps_imp (ps_set hN hi hx (pe_tab0 X.w rfl) hs hf) fun D σ H ⟨Γ, G, ρ, r, R, er, f⟩ => by
  obtain ⟨d, e1, rfl⟩ := setS_some er
  cases e1
  refine fun q hq hs => ?_
  exact f _ G _ (by rw [hO]; exact R.storeK (Stp.new R.gh hq) hl (.tab (xs := []) upd_same hs .nil .nil) fun a ha => by rw [List.mem_singleton.mp ha]; exact ⟨hq, R.gh.free hq⟩)
/-! ### x[key] = value -/
def tabSetS (i : Nat) (F' F : Fd) : Bs := fun ρ => match F ρ, dvGet ρ i, F' ρ with
  | some vd, some (.dict kvs), some d => match keyOf d with
    | some k => if kvs.length < 16777216 then some (.nx (ρ.set i (some (.dict (kvSet kvs d k vd))))) else none
    | none => none
  | _, _, _ => none
theorem tabSetS_some {i : Nat} {ρ : Dv} {r : Res} (h : tabSetS i F' F ρ = some r) : ∃ vd kvs d k, F ρ = some vd ∧ dvGet ρ i = some (.dict kvs) ∧ F' ρ = some d ∧ keyOf d = some k ∧ kvs.length < 16777216 ∧ r = .nx (ρ.set i (some (.dict (kvSet kvs d k vd)))) := by
  unfold tabSetS at h
  split at h
  · rename_i vd kvs d e1 e2 e3
    split at h
    · rename_i k e4
      split at h
      · cases h; exact ⟨vd, kvs, d, k, e1, e2, e3, e4, by assumption, rfl⟩
      · cases h
    · cases h
  · cases h
/-- the entries behind it -/
theorem tab_set {K : PySem.W.Frag} {G : Hp} {xs : List TEnt} {ys : List (NestedKey × Addr × Value)} {kvs : List (PyData × PyData)} {k : NestedKey} {a : Addr} {v : V} {u : Value} {d vd : PyData} (es : Ents K G xs kvs) (rr : Paired TPr xs ys) (n : (xs.map (·.1)).Nodup) (rv : RelV v u) (dv : Dp K G v vd) (dk : Dp K G (.ref a) d) (ek : nk d = some k) (hd : k.depth ≤ 8) :
    ∃ xs', Ents K G xs' (kvSet kvs d k vd) ∧ Paired TPr xs' (storedH ys k a u) ∧ (xs'.map (·.1)).Nodup := by
  obtain ⟨g1, g2⟩ := tab_get (k := k) es rr
  cases z : kvGet kvs k with
  | none =>
    have z2 := g2 z
    refine ⟨xs ++ [(k, a, v)], ?_, ?_, ?_⟩
    · unfold kvSet; rw [z]
      simp only [Option.isSome_none, Bool.false_eq_true, if_false]
      exact Paired.snoc es ⟨dk, ek, hd, dv⟩
    · rw [storedH_new z2]
      exact Paired.snoc rr ⟨rfl, rfl, rv⟩
    · rw [List.map_append, List.nodup_append]
      refine ⟨n, by simp, fun q hq r hr => ?_⟩
      simp at hr
      subst hr
      intro e
      subst e
      rw [tpr_keys rr] at hq
      obtain ⟨y, hy, ey⟩ := List.mem_map.mp hq
      unfold atKey at z2
      rw [Option.map_eq_none_iff, List.find?_eq_none] at z2
      exact z2 y hy (by simpa using ey)
  | some vd0 =>
    obtain ⟨a0, v0, u0, h0, _, _⟩ := g1 vd0 z
    obtain ⟨i1, i2⟩ := tab_put (k := k) rv dv es rr
    refine ⟨xs.map (xPut k v), ?_, ?_, ?_⟩
    · unfold kvSet; rw [z]
      exact i1
    · rw [storedH_old h0]
      exact i2
    · have e : (xs.map (xPut k v)).map (·.1) = xs.map (·.1) := by
        rw [List.map_map]
        refine List.map_congr_left fun x _ => ?_
        unfold xPut
        simp only [Function.comp_apply]
        split <;> rfl
      rw [e]; exact n
theorem s_tabSet {o : Expr} (i : Nat) (hi : (i, Kd.tab X.w) ∈ O) (hu : X.A.units + 200 < cLine) (hv : PE X e (RD X.K O F)) (ho : PE X o (tVar i)) (hk : PE X a (RD X.K O F')) (hs : swapsWith e (some (.Subscript o a pos')) pos.line X.env = pure false := by rfl) :
    PS X (.Assign [.Subscript o a pos'] e pos) (RS X.K W O O OL (tabSetS i F' F)) := by
  refine ⟨fun pins s σ H D I ⟨Γ, G, ρ, r, R, er, f⟩ => ?_⟩
  obtain ⟨vd, kvs, d, k, e1, e2, e3, e4, hl, rfl⟩ := tabSetS_some er
  obtain ⟨q, xs0, f1, _⟩ := R.tab hi e2
  refine wpAny_Assign_Subscript (thn (hv.run pins s σ H (fun v H1 => ∃ G1, Stp G H G1 H1 ∧ Dp X.K G1 v vd) I ⟨Γ, G, ρ, vd, R, e1, fun v G1 H1 s1 dv => ⟨G1, s1, dv⟩⟩) fun u s1 ⟨v, H1, I1, rv, G1, t1, dv⟩ => ?_) hs
  have R1 := R.stp t1
  refine thn (ho.run pins s1 σ H1 (fun v H2 => v = .ref q ∧ H2 = H1) I1 ⟨_, f1, rfl, rfl⟩) fun ov s2 ⟨x2, H2, I2, rx2, ex2, eh2⟩ => ?_
  subst ex2 eh2
  obtain rfl : ov = Value.ref q := rx2
  refine thn (hk.run pins s2 σ H2 (fun v H3 => ∃ G3, Stp G1 H2 G3 H3 ∧ Dp X.K G3 v d) I2 ⟨Γ, G1, ρ, d, R1, e3, fun v G3 H3 s3 dv => ⟨G3, s3, dv⟩⟩) fun iv s3 ⟨y, H3, I3, ry, G3, t3, dk⟩ => ?_
  have R3 := R1.stp t3
  obtain ⟨q', xs, g1, g2, g3, g4, g5⟩ := R3.tab hi e2
  rw [f1] at g1; cases g1
  obtain ⟨ds, rfl, k1, k2⟩ := keyOf_some e4
  obtain ⟨a', rfl, rfl, hkey⟩ := tab_key I3 ry (dp_mono t3.gh _ _ dk) k1 k2
  obtain ⟨ys, hx, rr⟩ := tab_dict I3 g2 t3.gh g4 g5
  obtain ⟨xs', n1, n2, n3⟩ := tab_set g5 rr g4 rv (dp_mono t3.gg _ _ dv) dk k1 k2
  refine wpAny_setItem_heap (knd := nestedKind X.prog X.w) (by show X.A.units + 1 + 8 < cLine; omega) hkey hx (fun h' hd' hs' => ?_) (by rw [← paired_len rr, paired_len g5, line_eq]; omega)
  obtain ⟨w0, fp, c1, o, nn, ch⟩ := R3.change hi (dvGet_some e2)
  rw [f1] at c1; cases c1
  cases o with
  | tab o1 o2 o3 o4 =>
    refine ⟨σ, upd H3 q (tabO X.w q xs'), I3.write (x := q) (e := q) (t' := _) (by rw [g2]; exact True.intro) (.inl rfl) (fun b' u hb hu => (hs'.2 b' hb).trans hu) (by obtain ⟨oo, _, _, h1, _⟩ := hd'; exact ⟨oo, h1⟩) (tab_ok hd' n2), ?_⟩
    exact f σ G3 _ (ch G3 H3 _ [q] _ (Stp.refl R3.gh) (fun a ha => (nn a ha).2) (.tab upd_same g3 n3 n1) (fun a ha _ => upd_ne fun z => ha (by simp [z])) fun a ha => .inl ha)
end
/-! ### expressions that change what is the def's own -/
abbrev Fe := Dv → Option (PyData × Dv)
abbrev Le := Dv → Option (List PyData × Dv)
def RE (K : PySem.W.Frag) (O : Os) (F : Fe) : TE := fun σ H Q => ∃ Γ G ρ d ρ', Rep K Γ G H O σ ρ ∧ F ρ = some (d, ρ') ∧ ∀ v G' H', Same G G' → Rep K Γ G' H' O σ ρ' → Dp K G' v d → Q v H'
def RAE (K : PySem.W.Frag) (O : Os) (L : Le) : TA := fun σ H Q => ∃ Γ G ρ ds ρ', Rep K Γ G H O σ ρ ∧ L ρ = some (ds, ρ') ∧ ∀ vs G' H', Same G G' → Rep K Γ G' H' O σ ρ' → DpAll K G' vs ds → Q vs H'
section
variable {W : XK} {X : Cx} {e a b : Expr} {es : List Expr} {pos pos' p p2 p3 : Pos} {O O' OL : Os} {F F' : Fd} {L : Fl} {x : Str} {E : Fe} {M : Le}
def opE (g : PyData → PyData → Option PyData) (F : Fd) (E : Fe) : Fe := fun ρ => match F ρ, E ρ with
  | some x, some (y, ρ') => (g x y).map fun d => (d, ρ')
  | _, _ => none
theorem opE_some {g : PyData → PyData → Option PyData} {ρ ρ' : Dv} {d : PyData} (h : opE g F E ρ = some (d, ρ')) : ∃ x y, F ρ = some x ∧ E ρ = some (y, ρ') ∧ g x y = some d := by
  unfold opE at h
  split at h
  · rename_i x y ρ1 e1 e2
    cases e3 : g x y with
    | none => rw [e3] at h; cases h
    | some d' => rw [e3] at h; cases h; exact ⟨x, y, e1, e2, e3⟩
  · cases h
theorem e_op {op : Operator} {g : PyData → PyData → Option PyData} (ho : OpR X (binaryOp op) (r2D X.K g)) (ha : PE X a (RD X.K O F)) (hb : PE X b (RE X.K O E)) : PE X (.BinOp a op b pos) (RE X.K O (opE g F E)) :=
  pe_imp (pe_op ho ha hb) fun σ H Q ⟨Γ, G, ρ, d, ρ', R, ef, q⟩ => by
    obtain ⟨dx, dy, e1, e2, e3⟩ := opE_some ef
    exact ⟨Γ, G, ρ, dx, R, e1, fun v G1 H1 s1 dv => ⟨Γ, G1, ρ, dy, ρ', R.stp s1, e2, fun y G2 H2 sg R2 dy' => ⟨G2, dx, dy, d, R2.gh, .inl (dp_mono sg _ _ dv), .inl dy', e3, fun v' G' H' s3 dv' => q v' G' H' ((s1.gg.trans sg).trans s3.gg) (R2.stp s3) dv'⟩⟩⟩
def lastE (E : Fe) : Le := fun ρ => (E ρ).map fun z => ([z.1], z.2)
theorem ae_last (h : PE X e (RE X.K O E)) (hs : starEach [e] X.env = (false, eval e X.env) :: starEach [] X.env := by rfl) : PA X [e] (RAE X.K O (lastE E)) :=
  ⟨fun pos pins s σ H Q I ⟨Γ, G, ρ, ds, ρ', R, ef, q⟩ => (pa_cons h pa_nil hs).run pos pins s σ H Q I (by
    unfold lastE at ef
    cases e1 : E ρ with
    | none => rw [e1] at ef; cases ef
    | some z =>
      rw [e1] at ef
      cases ef
      exact ⟨Γ, G, ρ, z.1, z.2, R, e1, fun v G' H' sg R' dv => q [v] G' H' sg R' (.cons dv .nil)⟩)⟩
def consE (F : Fd) (M : Le) : Le := fun ρ => match F ρ, M ρ with
  | some d, some (ds, ρ') => some (d :: ds, ρ')
  | _, _ => none
theorem ae_cons (h : PE X e (RD X.K O F)) (h' : PA X es (RAE X.K O M)) (hs : starEach (e :: es) X.env = (false, eval e X.env) :: starEach es X.env := by rfl) : PA X (e :: es) (RAE X.K O (consE F M)) :=
  ⟨fun pos pins s σ H Q I ⟨Γ, G, ρ, ds, ρ', R, ef, q⟩ => (pa_cons h h' hs).run pos pins s σ H Q I (by
    unfold consE at ef
    split at ef
    · rename_i d ds' ρ1 e1 e2
      cases ef
      exact ⟨Γ, G, ρ, d, R, e1, fun v G1 H1 s1 dv => ⟨Γ, G1, ρ, ds', ρ', R.stp s1, e2, fun vs G' H' sg R' da => q (v :: vs) G' H' (s1.gg.trans sg) R' (.cons (dp_mono sg _ _ dv) da)⟩⟩
    · cases ef)⟩
def fLE (g : List PyData → Option PyData) (M : Le) : Fe := fun ρ => match M ρ with
  | some (ds, ρ') => (g ds).map fun d => (d, ρ')
  | none => none
theorem e_callB {id : String} {g : List PyData → Option PyData} (hc : CallR X (.builtin id) (rL X.K g)) (hg : Gl X x) (hm : X.mg x = none) (hv : bootBuiltins x = some (.builtin id)) (ha : PA X (e :: es) (RAE X.K O M)) (hn : x ≠ "__name__" := by decide) (hdb : (x == ("__debug__" : Str)) = false := by decide)
    (he : starEach (e :: es) X.env = (false, eval e X.env) :: starEach es X.env := by rfl) (hpl : (backTo pos (starEach es X.env)).any (·.1) = false := by rfl) : PE X (.Call (.Name x p) (e :: es) [] pos) (RE X.K O (fLE g M)) :=
  pe_imp (pe_callB hc hg hm hv ha hn hdb he hpl) fun σ H Q ⟨Γ, G, ρ, d, ρ', R, ef, q⟩ => by
    unfold fLE at ef
    split at ef
    · rename_i ds ρ1 e1
      cases e2 : g ds with
      | none => rw [e2] at ef; cases ef
      | some d' =>
        rw [e2] at ef
        cases ef
        exact ⟨Γ, G, ρ, ds, ρ', R, e1, fun vs G1 H1 sg R1 da => ⟨G1, ds, d, R1.gh, dpAll_bd da, e2, fun v G' H' s dv => q v G' H' (sg.trans s.gg) (R1.stp s) dv⟩⟩
    · cases ef
def setE (i : Nat) (E : Fe) : Bs := fun ρ => match E ρ with
  | some (d, ρ') => some (.nx (ρ'.set i (some d)))
  | none => none
theorem s_setE {i : Nat} (hN : X.N.Nodup) (hi : X.N[i]? = some x) (hx : Loc X.env.scope x) (hO : nin i O = true) (he : PE X e (RE X.K O E)) (hs : swapsWith e (some (.Name x pos')) pos.line X.env = pure false := by rfl) (hf : X.fn x = true ∨ X.env.scope.names.lookup x = some .local := by first | exact .inl rfl | exact .inr rfl | assumption) :
    PS X (.Assign [.Name x pos'] e pos) (RS X.K W O O OL (setE i E)) := ps_imp (ps_set hN hi hx he hs hf) fun D σ H ⟨Γ, G, ρ, r, R, er, f⟩ => by
  unfold setE at er
  split at er
  · rename_i d ρ1 e1
    cases er
    exact ⟨Γ, G, ρ, d, ρ1, R, e1, fun v G' H' sg R' dv => f _ G' H' (R'.store hO dv)⟩
  · cases er
def exE (E : Fe) : Bs := fun ρ => match E ρ with
  | some (_, ρ') => some (.nx ρ')
  | none => none
theorem s_exprE (he : PE X e (RE X.K O E)) (hs : swapsWith e none pos.line X.env = pure false := by rfl) : PS X (.Expr e pos) (RS X.K W O O OL (exE E)) := ps_imp (ps_expr he hs) fun D σ H ⟨Γ, G, ρ, r, R, er, f⟩ => by
  unfold exE at er
  split at er
  · rename_i d ρ1 e1
    cases er
    exact ⟨Γ, G, ρ, d, ρ1, R, e1, fun v G' H' sg R' dv => f σ G' H' R'⟩
  · cases er
end
/-! ### a def that is handed a dict to change: its first parameter -/
abbrev GT := List (PyData × PyData) → List PyData → Option (PyData × List (PyData × PyData))
def spT (K : PySem.W.Frag) (w : World) (g : GT) : Sp := fun vs H Q _ => ∃ G q vs' kvs ds r kvs', vs = .ref q :: vs' ∧ Same G H ∧ Own K G H (.tab w) (.ref q) [q] (.dict kvs) ∧ G q = none ∧ DpAll K G vs' ds ∧ g kvs ds = some (r, kvs') ∧
  ∀ v G' H', Stp G (delH H q) G' H' → G' q = none → Own K G' H' (.tab w) (.ref q) [q] (.dict kvs') → Dp K G' v r → Q v H'
def runT (n k : Nat) (B : Bs) : GT := fun kvs ds => if ds.length + 1 = k then (match B (env0 n (.dict kvs :: ds)) with
  | some (.ret d ρ) => (match dvGet ρ 0 with | some (.dict kvs') => some (d, kvs') | _ => none)
  | some (.nx ρ) => (match dvGet ρ 0 with | some (.dict kvs') => some (.none, kvs') | _ => none)
  | _ => none) else none
theorem runT_some {n k : Nat} {B : Bs} {kvs kvs' : List (PyData × PyData)} {ds : List PyData} {d : PyData} (h : runT n k B kvs ds = some (d, kvs')) : ds.length + 1 = k ∧ ∃ r ρ, B (env0 n (.dict kvs :: ds)) = some r ∧ (r = .ret d ρ ∨ (r = .nx ρ ∧ d = .none)) ∧ dvGet ρ 0 = some (.dict kvs') := by
  unfold runT at h
  split at h
  · refine ⟨by assumption, ?_⟩
    split at h
    · rename_i d' ρ e1
      split at h
      · cases h; exact ⟨_, ρ, e1, .inl rfl, by assumption⟩
      · cases h
    · rename_i ρ e1
      split at h
      · cases h; exact ⟨_, ρ, e1, .inr ⟨rfl, rfl⟩, by assumption⟩
      · cases h
    · cases h
  · cases h
theorem own_tab {K : PySem.W.Frag} {G H : Hp} {w : World} {q : Addr} {fp : List Addr} {d : PyData} (o : Own K G H (.tab w) (.ref q) fp d) : fp = [q] := by cases o; rfl
theorem rep_startT {K : PySem.W.Frag} {w : World} {G H : Hp} {N : List Str} {q : Addr} {vs : List V} {kvs : List (PyData × PyData)} {ds : List PyData} (gh : Same G H) (o : Own K G H (.tab w) (.ref q) [q] (.dict kvs)) (gq : G q = none) (da : DpAll K G vs ds) (hl : vs.length + 1 ≤ N.length) :
    Rep K ⟨delH H q, G, [(0, .tab w, .ref q)]⟩ G H [(0, .tab w)] (L2.start N (.ref q :: vs)) (env0 N.length (.dict kvs :: ds)) := by
  have s0 : (L2.start N (.ref q :: vs))[0]? = some (some (.ref q)) := rfl
  refine ⟨⟨fun b u e => ?_, Same.refl _, gh, fun _ _ e => e⟩, ?_, fun i d hi e => ?_, ⟨fun i => if i = 0 then [q] else [], fun i kd d hi e => ?_, fun i j a hij ha hb => ?_⟩, fun i kd v m => ?_, fun i k k' m m' => ?_⟩
  · have e' : delH H q b = some u := e
    by_cases h : b = q
    · subst h; rw [delH_same] at e'; cases e'
    · rw [delH_ne h] at e'; exact e'
  · unfold L2.start env0
    simp only [List.length_append, List.length_map, List.length_replicate, List.length_cons, da.length]
  · cases i with
    | zero => simp [nin] at hi
    | succ i =>
      unfold env0 at e
      rw [List.map_cons, List.cons_append, List.getElem?_cons_succ] at e
      by_cases h : i < ds.length
      · rw [List.getElem?_append_left (by rw [List.length_map]; exact h), List.getElem?_map] at e
        cases z : ds[i]? with
        | none => rw [z] at e; cases e
        | some d' =>
          rw [z] at e; cases e
          obtain ⟨v, h1, h2⟩ := da.get z
          refine ⟨v, ?_, h2⟩
          unfold L2.start
          rw [List.map_cons, List.cons_append, List.getElem?_cons_succ, List.getElem?_append_left (by rw [List.length_map, da.length]; exact h), List.getElem?_map, h1]
          rfl
      · rw [List.getElem?_append_right (by rw [List.length_map]; omega)] at e
        rw [List.getElem?_replicate] at e
        split at e
        · cases e
        · cases e
  · have hi' := List.mem_singleton.mp hi
    cases hi'
    have e' : (some (some (PyData.dict kvs)) : Option (Option PyData)) = some (some d) := e
    cases e'
    refine ⟨.ref q, s0, o, fun a ha => ?_⟩
    have ha' : a ∈ [q] := ha
    rw [List.mem_singleton.mp ha']
    exact ⟨delH_same, gq⟩
  · simp only at ha hb
    split at ha <;> split at hb
    · rename_i h1 h2; exact hij (by rw [h1, h2])
    · cases hb
    · cases ha
    · cases ha
  · have m' := List.mem_singleton.mp m
    cases m'
    exact ⟨by simp, rfl, s0⟩
  · cases List.mem_singleton.mp m
    cases List.mem_singleton.mp m'
    rfl
theorem fn_dT {P : Program} {w : World} {K : PySem.W.Frag} {mg : Str → Option Value} {base : Heap} {x qual : Str} {st : Stmt} {f : Addr} {fd : FuncData} {N ps : List Str} {k n np : Nat} {B : Bs} (F : Fun K x qual st f fd) (S : FnScope N ps (defScope st)) (hn : N.length = n) (hnp : ps.length = np) (hle : np ≤ n)
    (hb : ∀ (cdv : Value) (A : Around) (outer : List Env) (s : Shared) (H : Hp) (E : XK), Room k (A.deeper (envOfC qual (defScope st) s.heap.objs.size f cdv)) →
      ∃ O' OL, PSs (cxOf CX0 P w K mg base N qual (defScope st) f cdv A outer s H E).nox (defBody st) (RS K E0 [(0, .tab w)] O' OL B)) : FnOk P w K mg base CX0 (k + 1) f fd ps (spT K w (runT n np B)) := by
  refine F.ok S (fun vs H Q E h => ?_) (fun cdv A outer s H vs Q E hr h => ?_)
  · obtain ⟨G, q, vs', kvs, ds, r, kvs', rfl, gh, o, gq, da, ef, _⟩ := h
    rw [List.length_cons, da.length, (runT_some ef).1, hnp]
  · obtain ⟨G, q, vs', kvs, ds, r, kvs', rfl, gh, o, gq, da, ef, qq⟩ := h
    obtain ⟨h1, r0, ρ, h2, h3, h4⟩ := runT_some ef
    obtain ⟨O', OL, hbody⟩ := hb cdv A outer s H E hr
    have fin : ∀ (v : V) (σ : L2.St) (G' H' : Hp) (Or : Os), Rep K ⟨delH H q, G, [(0, .tab w, .ref q)]⟩ G' H' Or σ ρ → Dp K G' v r → Q v H' := fun v σ G' H' Or R dv => by
      obtain ⟨p1, p2, p3⟩ := R.par 0 _ _ (List.mem_singleton.mpr rfl)
      obtain ⟨fp, w1, _⟩ := R.ow
      obtain ⟨v', e1, o', nn⟩ := w1 0 _ _ p1 (dvGet_some h4)
      rw [p3] at e1; cases e1
      have ef := own_tab o'
      rw [ef] at o' nn
      exact qq v G' H' R.base (nn q (by simp)).2 o' dv
    refine ⟨_, hbody, ⟨delH H q, G, [(0, .tab w, .ref q)]⟩, G, env0 n (.dict kvs :: ds), r0, ?_, h2, ?_⟩
    · rw [← hn]
      exact rep_startT gh o gq da (by rw [da.length, h1]; omega)
    · rcases h3 with rfl | ⟨rfl, rfl⟩
      · exact fun v σ G' H' Or R dv => fin v σ G' H' Or R dv
      · exact fun σ G' H' R => fin _ σ G' H' _ R .non
def KnT (P : Program) (w : World) (K : PySem.W.Frag) (mg : Str → Option Value) (base : Heap) (x : Str) (k : Nat) (ps : List Str) (g : GT) : Prop :=
  ∃ f fd, FnOk P w K mg base CX0 k f fd ps (spT K w g) ∧ mg x = some (.ref f) ∧ PySem.W.keepIn K (.ref f) = true ∧ Binds K fd ps []
section
variable {P : Program} {w : World} {K : PySem.W.Frag} {mg : Str → Option Value} {base : Heap} {x : Str} {st : Stmt} {ps : List Str} {f : Addr} {fd : FuncData} {k : Nat} {g g' : GT}
theorem kt_of (h : Here K mg x st ps f fd) (F : FnOk P w K mg base CX0 k f fd ps (spT K w g)) : KnT P w K mg base x k ps g := ⟨f, fd, F, h.at_, h.fn.kp, h.bd⟩
theorem KnT.zero (h : Here K mg x st ps f fd) : KnT P w K mg base x k ps (fun _ _ => none) :=
  ⟨f, fd, ⟨fun vs H Q E q => (by obtain ⟨_, _, _, _, _, _, _, _, _, _, _, _, z, _⟩ := q; cases z), fun A outer s H args us vs Q E hr he hb hv q => (by obtain ⟨_, _, _, _, _, _, _, _, _, _, _, _, z, _⟩ := q; cases z)⟩, h.at_, h.fn.kp, h.bd⟩
end
section
variable {X : Cx} {e a b : Expr} {es : List Expr} {pos pos' p : Pos} {O : Os} {L : Fl} {ps : List Str} {g : GT} {k j : Nat} {x y : Str}
def callTE (g : GT) (i : Nat) (L : Fl) : Fe := fun ρ => match dvGet ρ i, L ρ with
  | some (.dict kvs), some ds => (match g kvs ds with
    | some (r, kvs') => some (r, ρ.set i (some (.dict kvs')))
    | none => none)
  | _, _ => none
theorem callTE_some {i : Nat} {ρ ρ' : Dv} {d : PyData} (h : callTE g i L ρ = some (d, ρ')) : ∃ kvs ds kvs', dvGet ρ i = some (.dict kvs) ∧ L ρ = some ds ∧ g kvs ds = some (d, kvs') ∧ ρ' = ρ.set i (some (.dict kvs')) := by
  unfold callTE at h
  split at h
  · rename_i kvs ds e1 e2
    split at h
    · rename_i r kvs' e3
      cases h; exact ⟨kvs, ds, kvs', e1, e2, e3, rfl⟩
    · cases h
  · cases h
theorem e_callT (i : Nat) (hi : (i, Kd.tab X.w) ∈ O) (Dn : KnT X.prog X.w X.K X.mg X.base x k ps g) (hr : Room j X.A) (hj : k ≤ j) (hg : Gl X x) (hb : PE X (.Name y pos') (tVar i)) (ha : PA X es (RA X.K O L)) (hdb : (x == ("__debug__" : Str)) = false := by decide)
    (he : starEach (.Name y pos' :: es) X.env = (false, eval (.Name y pos') X.env) :: starEach es X.env := by rfl) (hpl : (backTo pos (starEach es X.env)).any (·.1) = false := by rfl) : PE X (.Call (.Name x p) (.Name y pos' :: es) [] pos) (RE X.K O (callTE g i L)) := by
  obtain ⟨f, fd, F, m1, m2, m3⟩ := Dn
  refine pe_imp (pe_call (F.mono hj) hr hg m1 m2 m3 .nil (pass0 : Passes CX0 X E0) (pa_cons hb ha he) hdb he hpl) fun σ H Q ⟨Γ, G, ρ, d, ρ', R, ef, q⟩ => ?_
  obtain ⟨kvs, ds, kvs', e1, e2, e3, rfl⟩ := callTE_some ef
  obtain ⟨t, xs, f1, f2, f3, f4, f5⟩ := R.tab hi e1
  refine ⟨_, f1, Γ, G, ρ, ds, R, e2, fun vs G1 H1 s1 da => ?_⟩
  have R1 := R.stp s1
  obtain ⟨v0, fp, c1, o, nn, ch⟩ := R1.change hi (dvGet_some e1)
  rw [f1] at c1; cases c1
  have ef2 := own_tab o
  subst ef2
  have gt := (nn t (by simp)).2
  obtain ⟨t2, xs2, g1, g2, _⟩ := R1.tab hi e1
  rw [f1] at g1; cases g1
  show spT X.K X.w g ((V.ref t :: vs) ++ []) H1 Q E0
  rw [List.append_nil]
  refine ⟨G1, t, vs, kvs, ds, d, kvs', rfl, R1.gh, o, gt, da, e3, fun v G' H' s2 g3 o' dv => q v G' H' (s1.gg.trans s2.gg) (ch G' (upd H' t (tabO X.w t xs2)) H' [t] _ ⟨fun b u e => ?_, s2.gg, fun b u e => ?_, fun b h1 h2 => ?_⟩ (fun a ha => by rw [List.mem_singleton.mp ha]; exact g3) o' (fun b hb _ => (upd_ne fun z => hb (by simp [z])).symm) fun b hb => .inl hb) dv⟩
  · by_cases h : b = t
    · subst h; rw [g2] at e; rw [upd_same]; exact e
    · rw [upd_ne h]; exact s2.hh b u (by rw [delH_ne h]; exact e)
  · rw [upd_ne (fun z => by subst z; rw [g3] at e; cases e)]; exact s2.gh b u e
  · by_cases h : b = t
    · subst h; exact g3
    · exact s2.sep b (by rw [delH_ne h]; exact h1) h2
end
/-! ### a def that gives back a dict of its own -/
def RSo (K : PySem.W.Frag) (O : Os) (i : Nat) (kd : Kd) (B : Dv → Option Dv) : TS := fun D σ H => ∃ Γ G ρ ρ', Rep K Γ G H O σ ρ ∧ B ρ = some ρ' ∧ ∀ σ' G' H' O', Rep K Γ G' H' O' σ' ρ' → (i, kd) ∈ O' → ∀ v, σ'[i]? = some (some v) → D.rt v H'
def retO (i : Nat) : Dv → Option Dv := fun ρ => if (dvGet ρ i).isSome then some ρ else none
def seqO (B : Bs) (B' : Dv → Option Dv) : Dv → Option Dv := fun ρ => match B ρ with
  | some (.nx ρ') => B' ρ'
  | _ => none
section
variable {W : XK} {X : Cx} {st : Stmt} {rest : List Stmt} {e : Expr} {es : List Expr} {pos pos' p : Pos} {O O1 O' OL : Os} {L : Fl} {B : Bs} {B' : Dv → Option Dv} {kd : Kd} {x : Str} {ps : List Str} {k j : Nat}
theorem so_ret (i : Nat) (hi : (i, kd) ∈ O) (h : PE X e (tVar i)) : PSs X [.Return (some e) pos] (RSo X.K O i kd (retO i)) := pss_imp (pss_cons (ps_ret h) pss_nil) fun D σ H ⟨Γ, G, ρ, ρ', R, ef, f⟩ => by
  unfold retO at ef
  split at ef
  · rename_i hs
    cases ef
    obtain ⟨d, hd⟩ := Option.isSome_iff_exists.mp hs
    obtain ⟨fp, h1, _⟩ := R.ow
    obtain ⟨v, e1, _⟩ := h1 i kd d hi (dvGet_some hd)
    exact ⟨v, e1, f σ G H O R hi v e1⟩
  · cases ef
theorem so_cons (h : PS X st (RS X.K W O O1 OL B)) {i : Nat} (h' : PSs X rest (RSo X.K O1 i kd B')) : PSs X (st :: rest) (RSo X.K O i kd (seqO B B')) := pss_imp (pss_cons h h') fun D σ H ⟨Γ, G, ρ, ρ', R, ef, f⟩ => by
  unfold seqO at ef
  split at ef
  · rename_i ρ1 e1
    exact ⟨Γ, G, ρ, _, R, e1, fun σ1 G1 H1 R1 => ⟨Γ, G1, ρ1, ρ', R1, ef, f⟩⟩
  · cases ef
abbrev GO := List PyData → Option (List (PyData × PyData))
def spO (K : PySem.W.Frag) (w : World) (g : GO) : Sp := fun vs H Q _ => ∃ G ds kvs, Same G H ∧ DpAll K G vs ds ∧ g ds = some kvs ∧ ∀ q G' H', Stp G H G' H' → H q = none → G' q = none → Own K G' H' (.tab w) (.ref q) [q] (.dict kvs) → Q (.ref q) H'
def runO (n k i : Nat) (B : Dv → Option Dv) : GO := fun ds => if ds.length = k then (match B (env0 n ds) with
  | some ρ => (match dvGet ρ i with | some (.dict kvs) => some kvs | _ => none)
  | none => none) else none
theorem runO_some {n k i : Nat} {B : Dv → Option Dv} {ds : List PyData} {kvs : List (PyData × PyData)} (h : runO n k i B ds = some kvs) : ds.length = k ∧ ∃ ρ, B (env0 n ds) = some ρ ∧ dvGet ρ i = some (.dict kvs) := by
  unfold runO at h
  split at h
  · refine ⟨by assumption, ?_⟩
    split at h
    · rename_i ρ e1
      split at h
      · cases h; exact ⟨ρ, e1, by assumption⟩
      · cases h
    · cases h
  · cases h
theorem fn_dO {P : Program} {w : World} {K : PySem.W.Frag} {mg : Str → Option Value} {base : Heap} {x qual : Str} {st : Stmt} {f : Addr} {fd : FuncData} {N ps : List Str} {k n np i : Nat} {B : Dv → Option Dv} (F : Fun K x qual st f fd) (S : FnScope N ps (defScope st)) (hn : N.length = n) (hnp : ps.length = np) (hle : np ≤ n)
    (hb : ∀ (cdv : Value) (A : Around) (outer : List Env) (s : Shared) (H : Hp) (E : XK), Room k (A.deeper (envOfC qual (defScope st) s.heap.objs.size f cdv)) →
      PSs (cxOf CX0 P w K mg base N qual (defScope st) f cdv A outer s H E).nox (defBody st) (RSo K [] i (.tab w) B)) : FnOk P w K mg base CX0 (k + 1) f fd ps (spO K w (runO n np i B)) := by
  refine F.ok S (fun vs H Q E h => ?_) (fun cdv A outer s H vs Q E hr h => ?_)
  · obtain ⟨G, ds, d, gh, da, ef, _⟩ := h
    rw [da.length, (runO_some ef).1, hnp]
  · obtain ⟨G, ds, kvs, gh, da, ef, q⟩ := h
    obtain ⟨h1, ρ, h2, h3⟩ := runO_some ef
    refine ⟨_, hb cdv A outer s H E hr, ⟨H, G, []⟩, G, env0 n ds, ρ, ?_, h2, fun σ' G' H' O' R hi v hv => ?_⟩
    · rw [← hn]
      exact rep_start gh da (by rw [da.length, h1]; omega)
    · obtain ⟨fp, w1, _⟩ := R.ow
      obtain ⟨v', e1, o', nn⟩ := w1 i _ _ hi (dvGet_some h3)
      rw [hv] at e1; cases e1
      generalize fp i = ff at o' nn
      cases o' with
      | tab a1 a2 a3 a4 => exact q _ G' H' R.base (nn _ (by simp)).1 (nn _ (by simp)).2 (.tab a1 a2 a3 a4)
def KnO (P : Program) (w : World) (K : PySem.W.Frag) (mg : Str → Option Value) (base : Heap) (x : Str) (k : Nat) (ps : List Str) (g : GO) : Prop :=
  ∃ f fd, FnOk P w K mg base CX0 k f fd ps (spO K w g) ∧ mg x = some (.ref f) ∧ PySem.W.keepIn K (.ref f) = true ∧ Binds K fd ps []
theorem ko_of {P : Program} {w : World} {K : PySem.W.Frag} {mg : Str → Option Value} {base : Heap} {f : Addr} {fd : FuncData} {g : GO} (h : Here K mg x st ps f fd) (F : FnOk P w K mg base CX0 k f fd ps (spO K w g)) : KnO P w K mg base x k ps g := ⟨f, fd, F, h.at_, h.fn.kp, h.bd⟩
def setTabS (i : Nat) (g : GO) (L : Fl) : Bs := fun ρ => match L ρ with
  | some ds => (g ds).map fun kvs => .nx (ρ.set i (some (.dict kvs)))
  | none => none
/-- x = f(..), f a def that gives back a dict of its own -/
theorem s_setCallO {g : GO} {y : Str} {i : Nat} (hN : X.N.Nodup) (hi : X.N[i]? = some y) (hx : Loc X.env.scope y) (hl : lsl i O = true) (hO : O' = insK i (.tab X.w) O) (Dn : KnO X.prog X.w X.K X.mg X.base x k ps g) (hr : Room j X.A) (hj : k ≤ j) (hg : Gl X x) (ha : PA X (e :: es) (RA X.K O L)) (hdb : (x == ("__debug__" : Str)) = false := by decide)
    (he : starEach (e :: es) X.env = (false, eval e X.env) :: starEach es X.env := by rfl) (hpl : (backTo p (starEach es X.env)).any (·.1) = false := by rfl)
    (hf : X.fn y = true ∨ X.env.scope.names.lookup y = some .local := by first | exact .inl rfl | exact .inr rfl | assumption) {p2 : Pos}
    (hs2 : swapsWith (.Call (.Name x p2) (e :: es) [] p) (some (.Name y pos')) pos.line X.env = pure false := by rfl) :
    PS X (.Assign [.Name y pos'] (.Call (.Name x p2) (e :: es) [] p) pos) (RS X.K W O O' OL (setTabS i g L)) := by
  obtain ⟨f, fd, F, m1, m2, m3⟩ := Dn
  refine ps_imp (ps_set hN hi hx (pe_call (F.mono hj) hr hg m1 m2 m3 .nil (pass0 : Passes CX0 X E0) ha hdb he hpl) hs2 hf) fun D σ H ⟨Γ, G, ρ, r, R, er, fi⟩ => ?_
  unfold setTabS at er
  split at er
  · rename_i ds e1
    cases e2 : g ds with
    | none => rw [e2] at er; cases er
    | some kvs =>
      rw [e2] at er
      cases er
      refine ⟨Γ, G, ρ, ds, R, e1, fun vs G1 H1 s1 da => ?_⟩
      show spO X.K X.w g (vs ++ []) H1 _ E0
      rw [List.append_nil]
      refine ⟨G1, ds, kvs, s1.gh, da, e2, fun q G' H' s2 h1 h2 o => ?_⟩
      exact fi _ G' H' (by rw [hO]; exact (R.stp s1).storeK s2 hl o fun a ha => by rw [List.mem_singleton.mp ha]; exact ⟨h1, h2⟩)
  · cases er
/-! ### x is not None, x is None -/
def dIsNN : PyData → Option PyData := fun d => some (.bool (match d with | .none => false | _ => true))
def dIsN : PyData → Option PyData := fun d => some (.bool (match d with | .none => true | _ => false))
theorem dp_non {K : PySem.W.Frag} {G : Hp} {v : V} {d : PyData} (h : Dp K G v d) : (decide (v = .non)) = (match d with | .none => true | _ => false) := by cases h <;> rfl
theorem t_isNN {F : Fd} {a : Expr} {q : Pos} {jj : Nat} (ha : PE X a (RD X.K O F)) : PT X (.Compare a [.IsNot] [.Constant .none jj q] pos) (RT X.K O (asB (f1 dIsNN F))) :=
  pt_imp (pt_cmpR op_notN ha (pe_non (pos := q)) (nobehind _ (by decide) (by decide))) fun σ H Q ⟨Γ, G, ρ, b, R, eb, qq⟩ => by
    have e1 := asB_some eb
    unfold f1 at e1
    cases e2 : F ρ with
    | none => rw [e2] at e1; cases e1
    | some d =>
      rw [e2] at e1
      cases e1
      exact ⟨Γ, G, ρ, d, R, e2, fun v G1 H1 s1 dv => ⟨rfl, _, by rw [dp_non dv], by cases d <;> exact qq G1 H1 s1⟩⟩
end
end Dat
open PySem PySem.Spec PyProof.Rows L2
namespace Dat
/-! ### set(xs), xs a list of whole numbers -/
section
open PySem PySem.Calls
variable {P : Program} {w : World} {A : Around} {E : Value → Shared → Prop} {s : Shared}
theorem call_set_listI {l : Addr} {items : Array Value} (ns : List Int) {Q : Value → Shared → Prop} (hh : A.handled = none) (hl : s.heap.IsList l items) (hit : IntsAre items.toList ns) (hb : ns.length + 1 < scanBound)
    (h : ∀ (h' : Heap) (tk c : Nat), SetR w h' s.heap.objs.size (fun j => decide (j ∈ ns)) c → c ≤ ns.length → (∀ b o, s.heap.get? b = some o → h'.get? b = some o) → Q (.ref s.heap.objs.size) { s with heap := h', toks := tk }) :
    wpAny (model P w) A (call (.type "set") [.ref l]) Q E s := by
  have hisz : items.size = ns.length := by
    have q := IntsAre.length hit
    rw [Array.length_toList] at q
    exact q
  obtain ⟨c, tl, hmro⟩ := F.called_set.mro
  have hmade := F.called_set.made
  have hsub := F.called_set.sub
  refine wpAny_call (codeAny_of_tree ?_)
  show wpAny _ _ (callAny (.type "set") _) _ _ _
  refine wpAny_pure ⟨Code.quiet_builtin _ (by decide +kernel), codeAny_builtin F.entry_type_call ?_⟩
  rw [Around.under_plain (weight_type_call_type "set" [.ref l] []) rfl]
  have h1 := F.called_set.notType
  have h2 := F.called_set.canCreate
  have hct := F.typeCall_set_1 (.ref l)
  repeat (any_goals (first | assumption | wp_step))
  refine codeAny_mono (code_set_led1 (.ref l) (E := E) (Q₁ := fun obj s₁ => obj = .ref s.heap.objs.size ∧ s₁ = { s with heap := s.heap.push { cls := .type "set", dict := none, data := .set #[] 0 (.fresh 0 0 (!w.params.followText "set-order")) } }) ⟨rfl, rfl⟩) fun r s₁ hr => ?_
  cases r with
  | error e => exact hr
  | ok fl =>
    cases fl with
    | ret obj =>
      obtain ⟨rfl, rfl⟩ := hr
      have hS : (s.heap.push { cls := .type "set", dict := none, data := .set #[] 0 (.fresh 0 0 (!w.params.followText "set-order")) }).get? s.heap.objs.size = some { cls := .type "set", dict := none, data := .set #[] 0 (.fresh 0 0 (!w.params.followText "set-order")) } := Heap.get?_push_size _ rfl
      have hT : Shared.TypeIs { s with heap := s.heap.push { cls := .type "set", dict := none, data := .set #[] 0 (.fresh 0 0 (!w.params.followText "set-order")) } } (.ref s.heap.objs.size) "set" := ⟨_, hS, rfl⟩
      have hli := F.called_set.init.lookup
      have hbi := F.called_set.init.bind (.ref s.heap.objs.size)
      repeat (any_goals (first | assumption | wp_step))
      refine codeAny_mono (codeAny_call_builtin (R := wants (fun r s₂ => r = .none ∧ ∃ h' tk c, s₂ = { s with heap := h', toks := tk } ∧ SetR w h' s.heap.objs.size (fun j => decide (j ∈ ns)) c ∧ c ≤ ns.length ∧
          (∀ b o, s.heap.get? b = some o → h'.get? b = some o)) E) F.called_set.init.plain F.entry_set_init (check_set_init_1 hT ?_)) fun r₂ s₂ hr₂ => ?_
      · obtain ⟨ol, hol, hcl, nl, hdl⟩ := hl
        obtain ⟨ocls, odict, odata, oslots⟩ := ol
        simp only at hcl hdl
        subst hcl; subst hdl
        have hol' : (s.heap.push { cls := .type "set", dict := none, data := .set #[] 0 (.fresh 0 0 (!w.params.followText "set-order")) }).get? l = some { cls := .type "list", dict := odict, data := .seq items nl, slots := oslots } := Heap.get?_push_of_some _ hol
        have hsls := F.sub_list_set
        have hslf := F.sub_list_frozenset
        have hne : (Value.type "list" == Value.type "dict") = false := by decide
        have hl1 : (s.heap.push { cls := .type "set", dict := none, data := .set #[] 0 (.fresh 0 0 (!w.params.followText "set-order")) }).IsList l items := ⟨_, hol', rfl, nl, rfl⟩
        unfold Builtin.«set.__init__» noKeywords Builtin.Frozenset.updateFrom
        generalize hPI : pyIter = PI
        wp_walk
        subst hPI
        refine wpAny_pyIter_list hl1 ?_
        refine wpAny_bind (wpAny_runValue ?_)
        have hlS : l < s.heap.objs.size := Heap.lt_size hol
        have hh3 : A.in1.in1.in1.handled = none := by simp [hh]
        have hz1 : (s.heap.push { cls := .type "set", dict := none, data := .set #[] 0 (.fresh 0 0 (!w.params.followText "set-order")) }).objs.size = s.heap.objs.size + 1 := Heap.size_push ..
        have hneI : l ≠ (s.heap.push { cls := .type "set", dict := none, data := .set #[] 0 (.fresh 0 0 (!w.params.followText "set-order")) }).objs.size := by
          rw [Heap.size_push]; exact Nat.ne_of_lt (Nat.lt_succ_of_lt hlS)
        have hSf : s.heap.objs.size ∉ [(s.heap.push { cls := .type "set", dict := none, data := .set #[] 0 (.fresh 0 0 (!w.params.followText "set-order")) }).objs.size, l] := by
          rw [Heap.size_push]; simp only [List.mem_cons, List.mem_singleton, List.not_mem_nil, or_false, not_or]
          exact ⟨Nat.ne_of_lt (Nat.lt_succ_self _), Nat.ne_of_gt hlS⟩
        have hval : ∀ (i : Nat) (v : Value), items[i]? = some v → ∃ k t, ns[i]? = some k ∧ v = .int k t := fun i v hv => by
          have hi : i < ns.length := by rw [← hisz]; exact (Array.getElem?_eq_some_iff.mp hv).1
          obtain ⟨t, e⟩ := PyProof.Rows.IntsAre.int_at hit i v (by rw [Array.getElem?_toList]; exact hv)
          refine ⟨ns[i], t, List.getElem?_eq_getElem hi, ?_⟩
          rw [e, List.getD_eq_getElem?_getD, List.getElem?_eq_getElem hi] <;> rfl
        refine set_update_ints ((Walks.list hh3 _ l hneI items).toS) s.heap.objs.size
          hSf ns hisz hb hval (items.size - 0) 0 _ (by omega) (Nat.zero_le _)
          ⟨⟨_, Heap.get?_push_size _ rfl, rfl, rfl⟩, (hl1.push _)⟩ ?hS0 ?hR
        case hS0 =>
          have hget : ((s.heap.push { cls := .type "set", dict := none, data := .set #[] 0 (.fresh 0 0 (!w.params.followText "set-order")) }).push { cls := .type "list_iterator", data := .fields #[.ref l, .int 0 0] }).get? s.heap.objs.size
              = some { cls := .type "set", dict := none, data := .set #[] 0 (.fresh 0 0 (!w.params.followText "set-order")) } := Heap.get?_push_of_some _ hS
          exact ⟨0, Nat.le_refl 0, setR_new_at hget⟩
        case hR =>
          intro s' c' hm hc' hS'
          obtain ⟨h', g2, d', tk', os'⟩ := s'
          have eg : g2 = s.gens := hm.gens
          have ed : d' = s.drawn := hm.drawn
          have eo : os' = s.os := hm.os
          subst eg; subst ed; subst eo
          show wpAny _ _ _ _ _ _
          refine wpAny_pure ?_
          show wpAny _ _ (ret Value.none) _ _ _
          rw [hisz] at hc'
          refine wpAny_pure ⟨rfl, h', tk', c', rfl, hS', hc', fun b o e => ?_⟩
          have hb0 : b < s.heap.objs.size := Heap.lt_size e
          have hb1 : b ≠ s.heap.objs.size := Nat.ne_of_lt hb0
          have hb2 : b ≠ (s.heap.push { cls := .type "set", dict := none, data := .set #[] 0 (.fresh 0 0 (!w.params.followText "set-order")) }).objs.size := by
            rw [Heap.size_push]; exact Nat.ne_of_lt (Nat.lt_succ_of_lt hb0)
          exact hm.heap b o (by simp only [List.mem_cons, List.mem_singleton, List.not_mem_nil, or_false, not_or]; exact ⟨hb1, hb2⟩) (Heap.get?_push_of_some _ (Heap.get?_push_of_some _ e))
      · cases r₂ with
        | error e => exact hr₂
        | ok fl₂ =>
          cases fl₂ with
          | ret r =>
            obtain ⟨rfl, h', tk, c', rfl, hS', hc', hk'⟩ := hr₂
            repeat (any_goals (first | assumption | wp_step))
            exact h _ _ _ hS' hc' hk'
          | _ => exact hr₂.elim
    | _ => exact hr.elim
end
/-! ### sorted(set(xs)) -/
def insU (x : Int) : List Int → List Int
  | [] => [x]
  | y :: r => if x < y then x :: y :: r else if x = y then y :: r else y :: insU x r
def ssetI (ns : List Int) : List Int := ns.foldr insU []
theorem insU_mem {x k : Int} : ∀ {ys : List Int}, k ∈ insU x ys ↔ k = x ∨ k ∈ ys
  | [] => by simp [insU]
  | y :: r => by
    unfold insU
    split
    · simp
    · split
      · rename_i h; subst h; simp
      · simp [insU_mem (ys := r)]
        constructor
        · rintro (h | h | h) <;> simp [h]
        · rintro (h | h | h) <;> simp [h]
theorem insU_sorted {x : Int} : ∀ {ys : List Int}, ys.Pairwise (· < ·) → (insU x ys).Pairwise (· < ·)
  | [], _ => by simp [insU]
  | y :: r, h => by
    have h1 := List.pairwise_cons.mp h
    unfold insU
    split
    · rename_i hx
      refine List.pairwise_cons.mpr ⟨fun z hz => ?_, h⟩
      rcases List.mem_cons.mp hz with rfl | hz
      · exact hx
      · have := h1.1 z hz; omega
    · split
      · exact h
      · refine List.pairwise_cons.mpr ⟨fun z hz => ?_, insU_sorted h1.2⟩
        rcases insU_mem.mp hz with rfl | hz
        · omega
        · exact h1.1 z hz
theorem ssetI_sorted : ∀ ns : List Int, (ssetI ns).Pairwise (· < ·)
  | [] => .nil
  | n :: ns => insU_sorted (ssetI_sorted ns)
theorem ssetI_mem {k : Int} : ∀ {ns : List Int}, k ∈ ssetI ns ↔ k ∈ ns
  | [] => by simp [ssetI]
  | n :: ns => by
    have ih := ssetI_mem (k := k) (ns := ns)
    show k ∈ insU n (ssetI ns) ↔ _
    rw [insU_mem, ih]; simp
theorem strict_eq {xs ys : List Int} (h1 : xs.Pairwise (· < ·)) (h2 : ys.Pairwise (· < ·)) (h : ∀ k, k ∈ xs ↔ k ∈ ys) : xs = ys := by
  have n1 : xs.Nodup := h1.imp fun {a b} z => by omega
  have n2 : ys.Nodup := h2.imp fun {a b} z => by omega
  have p : xs.Perm ys := (List.perm_ext_iff_of_nodup n1 n2).mpr h
  exact p.eq_of_pairwise (le := fun a b => a ≤ b) (fun a b _ _ x y => by omega) (h1.imp fun {a b} z => by omega) (h2.imp fun {a b} z => by omega)
section
variable {X : Cx} {a : Expr} {pos p p1 p2 : Pos} {O : Os} {F : Fd}
theorem cr_setL (hc : X.calm = true) : CallR X (.type "set") (fun vs H Q => ∃ (q : Addr) (ns : List Int), vs = [.ref q] ∧ SqL X.K H q (ns.map V.int) ∧ ns.length < 64 ∧ ∀ b c, H b = none → c ≤ ns.length → Q (.ref b) (upd H b (SetO X.w b (fun j => decide (j ∈ ns)) c))) := by
  intro pins s σ H vs us Q I r ⟨q, ns, ev, hq, hl, qq⟩
  subst ev
  rw [Vals.ref1 r]
  obtain ⟨its, rv, pl, hz⟩ := I.list hq
  have hi : IntsAre its.toArray.toList ns := ints_of_vals rv
  refine call_set_listI ns (I.ok.hd hc) pl.isList hi (by unfold scanBound; omega) fun h' tk c R1 hcn k => ?_
  have hn : H s.heap.objs.size = none := I.hok.fresh (Nat.le_refl _)
  exact ⟨.ref s.heap.objs.size, upd H s.heap.objs.size (SetO X.w s.heap.objs.size (fun j => decide (j ∈ ns)) c), I.laid (t' := tk) k (Nat.le_refl _) (setO_new R1), rfl, qq _ c hn hcn⟩
def ssF (F : Fd) : Fl := fun ρ => match F ρ with
  | some (.list ds) => (match intsD ds with
    | some ns => if ns.length < 64 then some ((ssetI ns).map .int) else none
    | none => none)
  | _ => none
theorem ints_dp {K : PySem.W.Frag} {G : Hp} : ∀ ns : List Int, DpAll K G (ns.map V.int) (ns.map PyData.int)
  | [] => .nil
  | n :: ns => .cons (.int n) (ints_dp ns)
theorem o_sortedSet (hc : X.calm = true) (hg : Gl X "sorted") (hm : X.mg "sorted" = none) (hv : bootBuiltins "sorted" = some (.builtin "sorted")) (hg2 : Gl X "set") (hm2 : X.mg "set" = none) (hv2 : bootBuiltins "set" = some (.type "set")) (ha : PE X a (RB X.K O F))
    (n1 : starEach [a] X.env = (false, eval a X.env) :: starEach [] X.env := by rfl) (n2 : starEach [.Call (.Name "set" p1) [a] [] p2] X.env = (false, eval (.Call (.Name "set" p1) [a] [] p2) X.env) :: starEach [] X.env := by rfl) (hpl : (backTo p2 (starEach [] X.env)).any (·.1) = false := by rfl) (hpl2 : (backTo pos (starEach [] X.env)).any (·.1) = false := by rfl) :
    PE X (.Call (.Name "sorted" p) [.Call (.Name "set" p1) [a] [] p2] [] pos) (RO X.K O (ssF F)) :=
  pe_imp (pe_callB (cr_sortedSet hc) hg hm hv (pa_cons (pe_callTy (cr_setL hc) hg2 hm2 hv2 (pa_cons ha pa_nil n1) (by decide) (by decide) n1 hpl) pa_nil n2) (by decide) (by decide) n2 hpl2) fun σ H Q ⟨Γ, G, ρ, ds, R, ef, q⟩ => by
    unfold ssF at ef
    split at ef
    · rename_i es e1
      split at ef
      · rename_i ns e2
        split at ef
        · rename_i hl
          cases ef
          refine ⟨Γ, G, ρ, _, R, e1, fun v G1 H1 s1 b => ?_⟩
          obtain ⟨t, vs, rfl, hq, da⟩ := b.list s1.gh
          have ev := intsD_dp e2 da
          subst ev
          refine ⟨t, ns, rfl, hq, hl, fun c n hcn hn => ?_⟩
          refine ⟨c, _, n, rfl, upd_same, by omega, fun ms u hs hmem hlen hu => ?_⟩
          have em : ms = ssetI ns := strict_eq hs (ssetI_sorted ns) fun k => by rw [hmem, ssetI_mem]; simp
          subst em
          have t1 := s1.trans (Stp.new (o := SetO X.w c (fun j => decide (j ∈ ns)) n) s1.gh hcn)
          have t2 := t1.trans (Stp.new (o := .lst ((ssetI ns).map V.int)) t1.gh hu)
          exact q u _ G1 _ t2 (t1.hh.free hu) (t1.gh.free hu) upd_same (ints_dp _)
        · cases ef
      · cases ef
    · cases ef
end
end Dat
open PySem PySem.Spec PyProof.Rows L2
namespace Dat
/-! ### sets of marks: tuples of a text and a number, all unlike -/
abbrev Mk := Str × Int
def nkP (k : Mk) : NestedKey := .tup [.text k.1, .num k.2]
theorem nkP_inj {a b : Mk} (h : nkP a = nkP b) : a = b := by
  obtain ⟨a1, a2⟩ := a
  obtain ⟨b1, b2⟩ := b
  simp only [nkP, NestedKey.tup.injEq, List.cons.injEq, NestedKey.text.injEq, NestedKey.num.injEq, and_true] at h
  rw [h.1, h.2]
/-- the mark k stands at a -/
def IsM (h : Heap) (k : Mk) (a : Addr) : Prop := NestedIs h (nkP k) (.ref a)
def hsM (w : World) (k : Mk) : Int := NestedKey.hash w (nkP k)
theorem nkP_depth (k : Mk) : (nkP k).depth ≤ 8 := by
  simp only [nkP, NestedKey.depth, NestedKey.depthAll]
  decide
/-- the tuple itself -/
theorem IsM.obj {h : Heap} {k : Mk} {a : Addr} (x : IsM h k a) : ∃ o items n, h.get? a = some o ∧ o.cls = .type "tuple" ∧ o.data = .seq items n ∧ ∃ t v, items.toList = [.str k.1 t, v] ∧ ((∃ b, v = .bool b) ∨ ∃ t', v = .int k.2 t') := by
  unfold IsM nkP at x
  cases x with
  | tup h1 h2 h3 h4 =>
    rename_i o vs n
    refine ⟨o, vs, n, h1, h2, h3, ?_⟩
    cases h5 : vs.toList with
    | nil => rw [h5] at h4; cases h4
    | cons u us =>
      rw [h5] at h4
      cases h4 with
      | cons g1 g2 =>
        cases g1 with
        | text _ t =>
          cases g2 with
          | cons g3 g4 =>
            cases g4
            cases g3 with
            | bool e => exact ⟨t, _, rfl, .inl ⟨_, rfl⟩⟩
            | int _ t' => exact ⟨t, _, rfl, .inr ⟨t', rfl⟩⟩
theorem IsM.isT {s : Shared} {k : Mk} {a : Addr} (x : IsM s.heap k a) : s.TypeIs (.ref a) "tuple" := by
  obtain ⟨o, items, n, h1, h2, _⟩ := x.obj
  exact ⟨o, h1, h2⟩
theorem IsM.keep {h h' : Heap} {k : Mk} {b : Addr} (x : IsM h k b) (hk : ∀ c o, h.get? c = some o → (∃ vs n, o.data = .seq vs n) → h'.get? c = some o) : IsM h' k b :=
  NestedIs.at (fun c o vs n e d => hk c o e ⟨vs, n, d⟩) _ _ x
section
variable {P : Program} {w : World} {A : Around} {E : Value → Shared → Prop} {s : Shared}
theorem IsM.is {h : Heap} {k : Mk} {a : Addr} (x : IsM h k a) : (nestedKind P w).is h (nkP k) a := ⟨x, nkP_depth k⟩
/-- it is of no class statement -/
theorem mark_plain {k : Mk} {b : Addr} {Q : Bool → Shared → Prop} (hk : IsM s.heap k b) (h : Q false s) : wpAny (model P w) A (ofAClassStatement 8 (.ref b)) Q E s := by
  obtain ⟨o, items, n, h1, h2, h3, t, v, h4, h5⟩ := hk.obj
  have lst : wpAny (model P w) A (do
      for y in items do
        if ← ofAClassStatement 7 y then return true
      return false : Sem Bool) Q E s := by
    rw [← Array.forIn_toList, h4]
    have q1 : ofAClassStatement 7 (.str k.1 t) = pure false := rfl
    have q2 : ofAClassStatement 7 v = pure false := by
      rcases h5 with ⟨b, rfl⟩ | ⟨t', rfl⟩ <;> rfl
    simp only [List.forIn_cons, List.forIn_nil, q1, q2, pure_bind, Bool.false_eq_true, if_false]
    exact wpAny_pure h
  unfold ofAClassStatement
  refine wpAny_bind (wpAny_typeOf hk.isT ?_)
  simp only [show (("tuple" : String) == "tuple") = true from by decide, if_true, pure_bind, Bool.not_true, Bool.false_eq_true, if_false]
  refine wpAny_bind (wpAny_seqItems h1 h3 ?_)
  exact lst
/-- its text's hash is no number's -/
theorem mark_hash {k : Mk} {b : Addr} {Q : Bool → Shared → Prop} (hk : IsM s.heap k b) (h : Q false s) : wpAny (model P w) A (hashByValue 8 (.ref b)) Q E s := by
  obtain ⟨o, items, n, h1, h2, h3, t, v, h4, h5⟩ := hk.obj
  have lst : wpAny (model P w) A (do
      for x in items do
        if !(← hashByValue 7 x) then return false
      return true : Sem Bool) Q E s := by
    rw [← Array.forIn_toList, h4]
    have q1 : hashByValue 7 (.str k.1 t) = pure false := rfl
    simp only [List.forIn_cons, q1, pure_bind, Bool.not_false, if_true]
    exact wpAny_pure h
  unfold hashByValue
  refine wpAny_bind (wpAny_specialOf hk.isT F.slot_tuple_hash.lookup ?_)
  refine wpAny_bind (wpAny_seqItems h1 h3 ?_)
  exact lst
/-- looking for a mark among marks tells nothing -/
theorem marks_unseen {k : Mk} {b : Addr} {Q : Bool → Shared → Prop} (hk : IsM s.heap k b) (h : Q false s) : ∀ ys : List Value, (∀ y, y ∈ ys → ∃ k' c, y = .ref c ∧ IsM s.heap k' c) → wpAny (model P w) A (searchCouldBeSeen (.ref b) ys) Q E s := by
  intro ys hy
  unfold searchCouldBeSeen
  refine wpAny_bind ?_
  refine wpAny_forIn_list _ (fun rest r s' => r.1 = none ∧ s' = s ∧ ∀ y, y ∈ rest → ∃ k' c, y = .ref c ∧ IsM s.heap k' c) _ (fun v rest r s' ⟨e1, e2, e3⟩ => ?_) (fun r s' ⟨e1, e2, _⟩ => ?_) _ _ ⟨rfl, rfl, hy⟩
  · subst e2
    obtain ⟨k', c, rfl, hc⟩ := e3 v (by simp)
    have e4 : ∀ y, y ∈ rest → ∃ k' c, y = .ref c ∧ IsM s'.heap k' c := fun y hy => e3 y (by simp [hy])
    dsimp only
    by_cases z : (b == c || (carriedByValue (.ref b) && carriedByValue (.ref c))) = true
    · exact wp_if_pos z (wpAny_pure ⟨rfl, rfl, e4⟩)
    · refine wp_if_neg z (wpAny_bind ((nestedKind P w).quiet hk.is ?_))
      simp only [Bool.not_true, Bool.false_eq_true, if_false]
      refine wpAny_bind ((nestedKind P w).quiet hc.is ?_)
      simp only [Bool.not_true, Bool.false_eq_true, if_false]
      refine wpAny_bind (mark_plain hk ?_)
      simp only [Bool.false_eq_true, if_false]
      refine wpAny_bind (mark_plain hc ?_)
      simp only [Bool.false_eq_true, if_false]
      exact wpAny_pure ⟨rfl, rfl, e4⟩
  · subst e2
    obtain ⟨r1, r2⟩ := r
    simp only at e1
    subst e1
    exact wpAny_pure h
end
/-- a set of marks as it lies in the heap -/
structure MSet (w : World) (h : Heap) (a : Addr) (L : List (Addr × Mk)) (es : Array (Int × Value)) (ep : Nat) (t : SetTable) : Prop where
  at_ : ∃ o, h.get? a = some o ∧ o.ExactSet ∧ o.data = .set es ep t
  rw_ : es.toList = L.map fun p => (hsM w p.2, Value.ref p.1)
  tb : TabOk t (L.map fun p => hsM w p.2)
  mrk : ∀ p, p ∈ L → IsM h p.2 p.1
  rm : L.length * 5 < t.mask * 3
  fw : L.length < 64
section
variable {P : Program} {w : World} {A : Around} {E : Value → Shared → Prop} {s : Shared} {a : Addr} {L : List (Addr × Mk)} {es : Array (Int × Value)} {ep : Nat} {t : SetTable}
theorem MSet.size {h : Heap} (R : MSet w h a L es ep t) : es.size = L.length := by
  have e := congrArg List.length R.rw_
  simpa using e
theorem MSet.fits {h : Heap} (R : MSet w h a L es ep t) : t.fits es.size = true := by
  have e1 : t.place.size = L.length := by simpa using R.tb.sz
  have e2 := R.size
  have e3 := R.rm
  simp only [SetTable.fits, SetTable.fill, R.tb.dm, Bool.and_eq_true, beq_iff_eq, decide_eq_true_eq]
  refine ⟨by omega, ?_⟩
  show t.place.size + 0 ≤ t.mask
  omega
theorem MSet.ent {h : Heap} (R : MSet w h a L es ep t) {i : Nat} {p : Addr × Mk} (e : L[i]? = some p) : es[i]? = some (hsM w p.2, Value.ref p.1) := by
  have q : es.toList[i]? = some (hsM w p.2, Value.ref p.1) := by rw [R.rw_]; simp [e]
  rwa [Array.getElem?_toList] at q
theorem MSet.alive {h : Heap} (R : MSet w h a L es ep t) : ¬ t.gaveWay = true := by
  simp [SetTable.gaveWay, mask_odd R.tb.mok]
/-- the first state of a search -/
abbrev pr0 (t : SetTable) (h : Int) : SetTable.Probe := runAt t.mask (SetTable.bits h % (t.mask + 1)) (SetTable.bits h)
theorem nth_clean (m : Nat) : ∀ (n : Nat) (p : SetTable.Probe), p.dummy = none → (nth m p n).dummy = none
  | 0, _, h => h
  | n + 1, p, h => nth_clean m n (adv m p) (by unfold adv; split <;> exact h)
/-- looking for a mark that isn't there ends at the first empty slot -/
theorem seek (R : MSet w s.heap a L es ep t) {x : Addr} {k : Mk} (hx : IsM s.heap k x) (hu : A.units + 10 < cLine) (hn : k ∉ L.map (·.2)) {K : Nat} (hKf : K < 10 * SetTable.turns t.mask)
    (hK : way t.mask (hsM w k) K ∉ t.place.toList) (hb : ∀ c, c < K → way t.mask (hsM w k) c ∈ t.place.toList) {Q : SetFound → Shared → Prop} (hq : Q (.free (way t.mask (hsM w k) K) false) s) :
    ∀ (f c : Nat) (st : Option SetTable.Probe), st.getD (t.probeStart (hsM w k)) = nth t.mask (pr0 t (hsM w k)) c → c ≤ K → K - c < f → wpAny (model P w) A (setSearchFrom a (.ref x) (hsM w k) true f st) Q E s
  | 0, c, st, _, _, h => absurd h (Nat.not_lt_zero _)
  | f + 1, c, st, e0, hc, hf => by
    obtain ⟨o, ho, hex, hd⟩ := R.at_
    rw [setSearchFrom_succ]
    refine wpAny_bind (wpAny_setState_of ho hd R.fits ?_)
    dsimp only
    refine wp_if_neg R.alive ?_
    try refine wpAny_bind (wpAny_pure ?_)
    have step : ∀ q, nth t.mask (nth t.mask (pr0 t (hsM w k)) c) q = nth t.mask (pr0 t (hsM w k)) (c + q) := fun q => (nth_add t.mask c _ q).symm
    have spec := go_spec t R.tb.ris R.tb.dm (fun i => (es[i]?.map (·.1)).getD 0) (hsM w k) (10 * SetTable.turns t.mask) (K - c) (nth t.mask (pr0 t (hsM w k)) c) (nth_clean _ _ _ rfl) (by omega)
      (fun q hq => by rw [step]; exact hb (c + q) (by omega)) (by rw [step, show c + (K - c) = K by omega]; exact hK)
    have probe : t.probe (fun i => (es[i]?.map (·.1)).getD 0) (hsM w k) (st.getD (t.probeStart (hsM w k))) = SetTable.probe.go t (fun i => (es[i]?.map (·.1)).getD 0) (hsM w k) (10 * SetTable.turns t.mask) (nth t.mask (pr0 t (hsM w k)) c) := by
      rw [e0]; rfl
    rcases spec with ⟨q, i, hq1, hi, _, _, hp⟩ | ⟨_, hp⟩
    · rw [step, step] at hp
      rw [step] at hi
      rw [probe, hp]
      dsimp only
      have hi2 : i < L.length := by
        have z1 := (List.getElem?_eq_some_iff.mp hi).1
        have z2 : t.place.size = L.length := by simpa using R.tb.sz
        rw [Array.length_toList] at z1
        omega
      obtain ⟨p, hpL⟩ : ∃ p, L[i]? = some p := ⟨_, List.getElem?_eq_getElem hi2⟩
      have hpm := List.mem_of_getElem? hpL
      have hne : p.2 ≠ k := fun z => hn (List.mem_map.mpr ⟨p, hpm, z⟩)
      have more : wpAny (model P w) A (searchRest a (.ref x) (hsM w k) true f es t (nth t.mask (pr0 t (hsM w k)) (c + q)).j i (nth t.mask (pr0 t (hsM w k)) (c + (q + 1)))) Q E s := by
        unfold searchRest
        rw [R.ent hpL]
        dsimp only
        refine wpAny_bind (wpAny_holding ((nestedKind P w).eqBool (by show A.units + 8 < cLine; omega) (R.mrk p hpm).is hx.is ?_))
        have dn : decide (nkP p.2 = nkP k) = false := decide_eq_false fun z => hne (nkP_inj z)
        rw [dn]
        refine wpAny_bind (wpAny_setState_of ho hd R.fits ?_)
        dsimp only
        refine wp_if_neg (by simp) ?_
        try refine wpAny_bind (wpAny_pure ?_)
        rw [sameMem]
        dsimp only
        have live := slot_live R.tb.ris hi
        simp only [if_true, live, R.ent hpL]
        refine wpAny_bind (wpAny_isSame_ref_self (wpAny_bind (wpAny_pure ?_)))
        simp only [if_true]
        refine wp_if_neg (by decide) ?_
        exact seek R hx hu hn hKf hK hb hq f (c + (q + 1)) _ rfl (by omega) (by omega)
      by_cases hl : t.led = true
      · refine wp_if_neg (by simp [hl]) ?_
        try refine wpAny_bind (wpAny_pure ?_)
        exact more
      · refine wp_if_pos (by simp [hl]) ?_
        refine wpAny_bind (marks_unseen hx ?_ _ fun y hy => ?_)
        · refine wp_if_neg (by decide) ?_
          try refine wpAny_bind (wpAny_pure ?_)
          exact more
        · obtain ⟨e, he, rfl⟩ := List.mem_map.mp hy
          have he1 : e ∈ es := by
            have z := he
            simp at z
            exact z.1
          have he2 : e ∈ es.toList := by simpa using he1
          rw [R.rw_] at he2
          obtain ⟨p2, hp2, rfl⟩ := List.mem_map.mp he2
          exact ⟨p2.2, p2.1, rfl, R.mrk p2 hp2⟩
    · rw [step, show c + (K - c) = K by omega] at hp
      rw [probe, hp]
      exact wpAny_pure hq
/-! ### the table laid anew -/
theorem pick_all {α : Type} : ∀ L : List α, (List.range L.length).filterMap (fun i => L[i]?) = L
  | [] => rfl
  | x :: L => by
    rw [List.length_cons, List.range_succ_eq_map, List.filterMap_cons_some (show (x :: L)[0]? = some x from rfl), List.filterMap_map]
    congr 1
    exact pick_all L
theorem pick_map {α β : Type} (f : α → β) (d : β) (L : List α) : ∀ l : List Nat, (∀ i, i ∈ l → i < L.length) → (l.filterMap fun i => L[i]?).map f = l.map fun i => ((L.map f)[i]?).getD d
  | [], _ => rfl
  | i :: l, h => by
    have hi := h i (by simp)
    rw [List.filterMap_cons_some (List.getElem?_eq_getElem hi), List.map_cons, List.map_cons, pick_map f d L l fun j hj => h j (by simp [hj])]
    simp [hi]
/-- the set's object stands still for the tuples -/
theorem mark_same {h h' : Heap} {k : Mk} {b : Addr} {o : Obj} (x : IsM h k b) (ho : h.get? a = some o) (hd : o.data = .set es ep t) (sb : Heap.SameBut a h h') : IsM h' k b := x.keep fun c u e ⟨vs, n, d⟩ => by
  refine (sb.2 c fun z => ?_).trans e
  subst z
  rw [ho] at e
  cases e
  rw [hd] at d
  cases d
theorem relayM {o : Obj} (ho : s.heap.get? a = some o) (hex : o.ExactSet) (hd : o.data = .set es ep t) (hr : es.toList = L.map fun p => (hsM w p.2, Value.ref p.1)) (hfit : t.fits es.size = true) (hm : ∀ p, p ∈ L → IsM s.heap p.2 p.1) (hf : L.length < 64)
    {n M : Nat} (hw : SetTable.sizeAbove n - 1 = M) (hM : MaskOk M) (hw2 : SetTable.sizeAbove n ≤ 128) (hn : L.length * 5 < M * 3) {Q : Unit → Shared → Prop}
    (hQ : ∀ h' L' es' ep' t', Heap.SameBut a s.heap h' → MSet w h' a L' es' ep' t' → L'.Perm L → Q () { s with heap := h' }) : wpAny (model P w) A (setRelay a n) Q E s := by
  have hz : es.size = L.length := by
    have e := congrArg List.length hr
    simpa using e
  obtain ⟨t', ord, e, hp, T, em, _, _, _⟩ := relaid_ok t (hs := es.map (·.1)) (wanted := n) hw hM (by rw [Array.size_map, hz]; omega)
  rw [Array.size_map, hz] at hp
  have hlt : ∀ i, i ∈ ord.toList → i < L.length := fun i hi => List.mem_range.mp (hp.mem_iff.mp hi)
  have pm : (ord.toList.filterMap fun i => L[i]?).Perm L := by
    have z := hp.filterMap fun i => L[i]?
    rwa [pick_all] at z
  have rows : (ord.filterMap (es[·]?)).toList = (ord.toList.filterMap fun i => L[i]?).map fun p => (hsM w p.2, Value.ref p.1) := by
    rw [Array.toList_filterMap, List.map_filterMap]
    congr 1
    funext i
    rw [← Array.getElem?_toList, hr, List.getElem?_map]
  have hashes : (ord.toList.filterMap fun i => L[i]?).map (fun p => hsM w p.2) = ord.toList.map fun i => (es.map (·.1)).getD i 0 := by
    rw [pick_map (fun p => hsM w p.2) 0 L _ hlt]
    refine List.map_congr_left fun i _ => ?_
    rw [Array.getD_eq_getD_getElem?, ← Array.getElem?_toList, Array.toList_map, hr, List.map_map]
    rfl
  rw [← hashes] at T
  have hz2 : (ord.filterMap (es[·]?)).size = es.size := by
    have z := congrArg List.length rows
    rw [Array.length_toList, List.length_map, pm.length_eq] at z
    rw [z, hz]
  generalize (ord.toList.filterMap fun i => L[i]?) = L2 at pm rows T
  rw [setRelay_eq]
  refine wpAny_bind (wpAny_setState_of ho hd hfit ?_)
  dsimp only
  refine wp_if_neg (by rw [sizeLine_eq]; omega) ?_
  try refine wpAny_bind (wpAny_pure ?_)
  rw [e]
  dsimp only
  refine wpAny_bind ?_
  refine wp_if_neg (by rw [hz2]; simp) ?_
  try refine wpAny_bind (wpAny_pure ?_)
  refine wpAny_pure ?_
  dsimp only
  refine wpAny_storeSet_of ho hd ?_ (by rw [hz2, hz, sizeLine_eq]; omega)
  have sb : Heap.SameBut a s.heap (s.heap.update a (Obj.putSet (ord.filterMap (es[·]?)) t')) := Heap.SameBut.update ..
  exact hQ _ L2 _ (ep + 1) t' sb ⟨⟨_, store_at ho hd, ⟨hex.1, hex.2.1, hex.2.2⟩, rfl⟩, rows, T, fun p hpm => mark_same (hm p (pm.mem_iff.mp hpm)) ho hd sb, by rw [pm.length_eq, em]; exact hn, by rw [pm.length_eq]; exact hf⟩ pm
/-- a mark that is not there is put in -/
theorem addM (R : MSet w s.heap a L es ep t) {x : Addr} {k : Mk} (hx : IsM s.heap k x) (hu : A.units + 10 < cLine) (hn : k ∉ L.map (·.2)) (hf : L.length + 1 < 64) {Q : Bool → Shared → Prop}
    (hQ : ∀ h' L' es' ep' t', Heap.SameBut a s.heap h' → MSet w h' a L' es' ep' t' → L'.Perm ((x, k) :: L) → Q true { s with heap := h' }) : wpAny (model P w) A (setAddHashed a (.ref x) (hsM w k)) Q E s := by
  obtain ⟨o, ho, hex, hd⟩ := R.at_
  have hz := R.size
  have hrm := R.rm
  obtain ⟨K, hKf, hK, hb⟩ := R.tb.first (by rw [List.length_map]; omega) (hsM w k)
  have hbig : K < 100000 := by
    have z : 10 * SetTable.turns t.mask ≤ 1420 := by
      unfold SetTable.turns
      rcases R.tb.mok with e | e | e <;> omega
    omega
  unfold setAddHashed
  refine wpAny_holding ?_
  rw [show (100000 : Nat) = 99999 + 1 from rfl, setAddHashedIn_succ]
  refine wpAny_bind (wpAny_setState_of ho hd R.fits ?_)
  dsimp only
  refine wp_if_neg (by simp [byScan, Value.scannable]) ?_
  try refine wpAny_bind (wpAny_pure ?_)
  refine wpAny_bind ?_
  unfold setSearch
  refine seek R hx hu hn hKf hK hb ?_ 100000 0 none rfl (Nat.zero_le _) (by omega)
  dsimp only
  refine wpAny_bind (wpAny_setState_of ho hd R.fits ?_)
  dsimp only
  obtain ⟨q1, q2, q3, q4, _, _, _, _, q9⟩ := R.tb.put hK hb
  generalize hpt : t.put (way t.mask (hsM w k) K) = pt at q1 q3 q4 q9 ⊢
  obtain ⟨t1, p⟩ := pt
  dsimp only at q1 q3 q4 q9 ⊢
  subst q1
  have rows : (SetTable.insertAt es (SetTable.below t.place (way t.mask (hsM w k) K)) (hsM w k, Value.ref x)).toList = (L.take (SetTable.below t.place (way t.mask (hsM w k) K)) ++ (x, k) :: L.drop (SetTable.below t.place (way t.mask (hsM w k) K))).map fun p => (hsM w p.2, Value.ref p.1) := by
    rw [SetTable.toList_insertAt, R.rw_, List.map_append, List.map_cons, List.map_take, List.map_drop]
  have hashes : (L.take (SetTable.below t.place (way t.mask (hsM w k) K)) ++ (x, k) :: L.drop (SetTable.below t.place (way t.mask (hsM w k) K))).map (fun p => hsM w p.2) = (L.map fun p => hsM w p.2).take (SetTable.below t.place (way t.mask (hsM w k) K)) ++ hsM w k :: (L.map fun p => hsM w p.2).drop (SetTable.below t.place (way t.mask (hsM w k) K)) := by
    rw [List.map_append, List.map_cons, List.map_take, List.map_drop]
  rw [← hashes] at q3
  generalize SetTable.below t.place (way t.mask (hsM w k) K) = p at q2 q3 rows ⊢
  have pm : (L.take p ++ (x, k) :: L.drop p).Perm ((x, k) :: L) := put_perm L p (x, k)
  have hlen : (L.take p ++ (x, k) :: L.drop p).length = L.length + 1 := pm.length_eq
  have hes : (SetTable.insertAt es p (hsM w k, Value.ref x)).size = L.length + 1 := by
    have e := congrArg List.length rows
    rw [Array.length_toList, List.length_map, hlen] at e
    exact e
  generalize SetTable.insertAt es p (hsM w k, Value.ref x) = es1 at rows hes ⊢
  generalize L.take p ++ (x, k) :: L.drop p = L1 at pm hlen q3 rows
  -- whatever is noted of the hash: the table's places are the same
  have go : ∀ t2 : SetTable, t2.place = t1.place → t2.dummies = t1.dummies → t2.mask = t1.mask → wpAny (model P w) A (do
      storeSet a es1 t2
      if !false && t2.tooFull then setRelay a (SetTable.grown (es.size + 1))
      return true : Sem Bool) Q E s := fun t2 e1 e2 e3 => by
    have T2 : TabOk t2 (L1.map fun p => hsM w p.2) := ⟨by rw [e1]; exact q3.ris, by rw [e2]; exact q3.dm, by rw [e1]; exact q3.sz, by rw [e3]; exact q3.mok, by rw [e1, e3]; exact q3.bd, by rw [e1, e3]; exact q3.reach⟩
    have fill : t2.fill = L.length + 1 := by
      have z : t2.fill = t1.fill := by simp only [SetTable.fill, e1, e2]
      rw [z, q9, List.length_map]
    refine wpAny_bind (wpAny_storeSet_of ho hd ?_ (by rw [hes, sizeLine_eq]; omega))
    have sb : Heap.SameBut a s.heap (s.heap.update a (Obj.putSet es1 t2)) := Heap.SameBut.update ..
    have ho1 := store_at (es' := es1) (t' := t2) ho hd
    generalize s.heap.update a (Obj.putSet es1 t2) = h1 at sb ho1 ⊢
    have mks : ∀ p, p ∈ L1 → IsM h1 p.2 p.1 := fun p hp => by
      rcases List.mem_cons.mp (pm.mem_iff.mp hp) with e | hp
      · rw [e]; exact mark_same hx ho hd sb
      · exact mark_same (R.mrk p hp) ho hd sb
    by_cases hfull : t2.tooFull = true
    · have h5 : (L.length + 1) * 5 ≥ t2.mask * 3 := by
        have z := hfull
        simp only [SetTable.tooFull, decide_eq_true_eq, fill] at z
        exact z
      have m2 : t2.mask = t.mask := e3.trans q4
      have two : (t.mask = 7 ∧ L.length = 4) ∨ (t.mask = 31 ∧ L.length = 18) := by
        rw [m2] at h5
        rcases R.tb.mok with e | e | e
        · left; rw [e] at h5 hrm; exact ⟨e, by omega⟩
        · right; rw [e] at h5 hrm; exact ⟨e, by omega⟩
        · exfalso; rw [e] at h5; omega
      have sz1 : t2.place.size = L.length + 1 := by
        have z := T2.sz
        rw [List.length_map, hlen] at z
        exact z
      have fit2 : t2.fits es1.size = true := by
        simp only [SetTable.fits, SetTable.fill, T2.dm, Bool.and_eq_true, beq_iff_eq, decide_eq_true_eq]
        refine ⟨by rw [sz1, hes], ?_⟩
        show t2.place.size + 0 ≤ t2.mask
        rw [sz1, m2]
        rcases two with ⟨e, e2⟩ | ⟨e, e2⟩ <;> omega
      have lay : ∀ M, SetTable.sizeAbove (SetTable.grown (L.length + 1)) - 1 = M → MaskOk M → SetTable.sizeAbove (SetTable.grown (L.length + 1)) ≤ 128 → (L.length + 1) * 5 < M * 3 →
          wpAny (model P w) A (setRelay a (SetTable.grown (L.length + 1))) (fun _ s' => wpAny (model P w) A (pure true) Q E s') E { s with heap := h1 } := fun M g1 g2 g3 g4 =>
        relayM (s := { s with heap := h1 }) ho1 ⟨hex.1, hex.2.1, hex.2.2⟩ rfl rows fit2 mks (by rw [hlen]; exact hf) g1 g2 g3 (by rw [hlen]; exact g4) fun h2 L2 es2 ep2 t2 sb2 R2 pm2 => wpAny_pure (hQ h2 L2 es2 ep2 t2 (sb.trans sb2) R2 (pm2.trans pm))
      have lay2 : wpAny (model P w) A (setRelay a (SetTable.grown (L.length + 1))) (fun _ s' => wpAny (model P w) A (pure true) Q E s') E { s with heap := h1 } := by
        rcases two with ⟨_, e2⟩ | ⟨_, e2⟩
        · exact lay 31 (by rw [e2, size_20]) (.inr (.inl rfl)) (by rw [e2, size_20]; decide) (by omega)
        · exact lay 127 (by rw [e2, size_76]) (.inr (.inr rfl)) (by rw [e2, size_76]; decide) (by omega)
      rw [hz]
      first
        | (refine wpAny_bind ?_; refine wp_if_pos (by simp [hfull]) ?_; exact lay2)
        | (refine wp_if_pos (by simp [hfull]) ?_; refine wpAny_bind ?_; exact lay2)
    · have fin : Q true { s with heap := h1 } := hQ h1 L1 es1 (ep + 1) t2 sb ⟨⟨_, ho1, ⟨hex.1, hex.2.1, hex.2.2⟩, rfl⟩, rows, T2, mks, by
        have z := hfull
        simp only [SetTable.tooFull, decide_eq_true_eq, fill] at z
        rw [hlen]
        omega, by rw [hlen]; exact hf⟩ pm
      first
        | (refine wp_if_neg (by simp [hfull]) ?_; exact wpAny_pure fin)
        | (refine wpAny_bind ?_; refine wp_if_neg (by simp [hfull]) ?_; exact wpAny_pure (wpAny_pure fin))
  by_cases hpl : t1.plain = true
  · first
      | (refine wpAny_bind ?_; refine wp_if_pos hpl ?_; refine mark_hash hx ?_)
      | refine wp_if_pos hpl (wpAny_bind (mark_hash hx ?_))
    simp only [Bool.false_eq_true, if_false]
    exact go _ rfl rfl rfl
  · first
      | (refine wpAny_bind ?_; refine wp_if_neg hpl ?_; refine wpAny_pure ?_)
      | refine wp_if_neg hpl (wpAny_bind (wpAny_pure ?_))
      | refine wp_if_neg hpl ?_
    simp only [if_true]
    exact go _ rfl rfl rfl
/-! ### set(xs), xs a list of marks all unlike -/
theorem loopM {I : Addr} {fp wr : List Addr} {G : Array GenState → Array GenState → Prop} {n : Nat} {Pv : Nat → Value → Prop} {St : Nat → Shared → Prop} {R : Result → Shared → Prop} (W : WalksS P w A.in1 I fp wr G n Pv St) (S : Addr) (hSf : S ∉ fp) (ks : List (Addr × Mk)) (hn : n = ks.length) (hnd : (ks.map (·.2)).Nodup) (hf : ks.length < 64)
    (hval : ∀ i v, Pv i v → ∃ p, ks[i]? = some p ∧ v = .ref p.1) (h0 : Heap) (hk : ∀ p, p ∈ ks → IsM h0 p.2 p.1) (hS0 : h0.get? S = none) (hw0 : ∀ b, b ∈ wr → h0.get? b = none) (hu : A.in1.units + 10 < cLine) :
    ∀ (m i : Nat) (s : Shared), n - i = m → i ≤ n → St i s → (∀ b o, h0.get? b = some o → s.heap.get? b = some o) → (∃ L es ep t, MSet w s.heap S L es ep t ∧ L.Perm (ks.take i)) →
      (∀ s' L es ep t, Moved (S :: wr) G s s' → MSet w s'.heap S L es ep t → L.Perm ks → (∀ b o, h0.get? b = some o → s'.heap.get? b = some o) → R (.ok (.ret .none)) s') → codeAny (model P w) A (.builtin "set.update.loop" ⟨[.ref S, .ref I], []⟩) R s := by
  have hSw : S ∉ wr := fun z => hSf (W.sub _ z)
  have more : ∀ b, b ∈ wr → b ∈ S :: wr := fun b hb => List.mem_cons_of_mem _ hb
  have stay : ∀ {u v : Shared}, Moved wr G u v → (∀ b o, h0.get? b = some o → u.heap.get? b = some o) → ∀ b o, h0.get? b = some o → v.heap.get? b = some o := fun mv kp b o e => mv.heap b o (fun z => by rw [hw0 b z] at e; cases e) (kp b o e)
  have moved : ∀ {u v : Shared} {L : List (Addr × Mk)} {es : Array (Int × Value)} {ep : Nat} {t : SetTable} {i : Nat}, Moved wr G u v → (∀ b o, h0.get? b = some o → u.heap.get? b = some o) → MSet w u.heap S L es ep t → L.Perm (ks.take i) → MSet w v.heap S L es ep t := fun mv kp T pm => by
    obtain ⟨o, ho, r⟩ := T.at_
    exact ⟨⟨o, mv.heap S o hSw ho, r⟩, T.rw_, T.tb, fun p hp => (hk p (List.mem_of_mem_take (pm.mem_iff.mp hp))).keep fun c u e _ => stay mv kp c u e, T.rm, T.fw⟩
  intro m
  induction m with
  | zero =>
    intro i s e hi hst kp ⟨L, es, ep, t, T, pm⟩ hR
    have hin : i = n := by omega
    subst hin
    refine codeAny_builtin F.entry_set_update_loop ?_
    rw [Around.under_plainId F.plain_set_update_loop _]
    show wpAny _ A.in1 (pyNext (.ref I) >>= _) _ _ s
    refine wpAny_bind (W.done s _ _ hst fun s' mv => ?_)
    show wpAny _ A.in1 (ret Value.none) _ _ s'
    exact wpAny_pure (hR s' L es ep t (mv.mono more) (moved mv kp T pm) (by rw [hn, List.take_length] at pm; exact pm) (stay mv kp))
  | succ m ih =>
    intro i s e hi hst kp ⟨L, es, ep, t, T, pm⟩ hR
    have hlt : i < n := by omega
    refine codeAny_builtin F.entry_set_update_loop ?_
    rw [Around.under_plainId F.plain_set_update_loop _]
    show wpAny _ A.in1 (pyNext (.ref I) >>= _) _ _ s
    refine wpAny_bind (W.item i s _ _ hlt hst fun v s' hv hst' mv => ?_)
    obtain ⟨p, hp, rfl⟩ := hval i v hv
    have kp' := stay mv kp
    have T' := moved mv kp T pm
    have hx : IsM s'.heap p.2 p.1 := (hk p (List.mem_of_getElem? hp)).keep fun c u e _ => kp' c u e
    have hil : i < ks.length := by omega
    have ep_ : ks[i] = p := by rw [List.getElem?_eq_getElem hil] at hp; exact Option.some.inj hp
    have nin : p.2 ∉ L.map (·.2) := fun z => by
      have z2 : p.2 ∈ (ks.take i).map (·.2) := (pm.map (·.2)).mem_iff.mp z
      have z3 : ks = ks.take i ++ p :: ks.drop (i + 1) := by rw [← ep_, ← List.drop_eq_getElem_cons hil, List.take_append_drop]
      rw [z3, List.map_append, List.nodup_append] at hnd
      exact hnd.2.2 p.2 z2 p.2 (by simp) rfl
    have lenL : L.length = i := by rw [pm.length_eq, List.length_take]; omega
    show wpAny _ A.in1 (holding [Value.ref p.1] (setAdd S (.ref p.1)) >>= _) _ _ s'
    refine wpAny_bind (wpAny_holding ?_)
    unfold setAdd
    refine wpAny_holding ?_
    refine wpAny_bind ((nestedKind P w).pyHash (by show A.in1.units + 8 < cLine; omega) hx.is ?_)
    refine addM (s := { s' with toks := s'.toks + (nestedKind P w).draws (nkP p.2) }) T' hx hu nin (by omega) fun h' L' es' ep' t' sb T2 pm2 => ?_
    have kp2 : ∀ b o, h0.get? b = some o → h'.get? b = some o := fun b o e => (sb.2 b (fun z => by rw [z, hS0] at e; cases e)).trans (kp' b o e)
    have pm3 : L'.Perm (ks.take (i + 1)) := by
      refine pm2.trans ?_
      rw [List.take_succ, hp]
      exact ((pm.cons (p.1, p.2)).trans (List.perm_append_singleton _ _).symm)
    refine wpAny_pure ⟨plainId_quiet F.plain_set_update_loop _, ih (i + 1) _ (by omega) hlt (W.frame _ s' _ _ hst' (Nat.le_add_right _ _) fun b hb o e => ?_) kp2 ⟨L', es', ep', t', T2, pm3⟩ fun s'' L2 es2 ep2 t2 mv2 T3 pm4 kp3 => ?_⟩
    · rw [sb.2 b (fun z : b = S => hSf (by rw [← z]; exact hb))]; exact e
    · refine hR s'' L2 es2 ep2 t2 (Moved.trans W.gtrans ((mv.mono more).then_heap (Nat.le_add_right _ _) fun b o hb e => ?_) mv2) T3 pm4 kp3
      rw [sb.2 b (fun z : b = S => hb (by rw [z]; exact List.mem_cons_self))]; exact e
theorem newM {h : Heap} {a : Addr} (ho : h.get? a = some { cls := .type "set", dict := none, data := .set #[] 0 (.fresh 0 0 (!w.params.followText "set-order")) }) : MSet w h a [] #[] 0 (.fresh 0 0 (!w.params.followText "set-order")) :=
  ⟨⟨_, ho, ⟨rfl, rfl, rfl⟩, rfl⟩, rfl, ⟨.nil, rfl, rfl, .inl rfl, fun x hx => (nomatch hx), fun i h j hi => by simp at hi⟩, fun p hp => (nomatch hp), by show 0 * 5 < 7 * 3; decide, by decide⟩
end
section
open PySem PySem.Calls
variable {P : Program} {w : World} {A : Around} {E : Value → Shared → Prop} {s : Shared}
theorem call_setM {l : Addr} {items : Array Value} (ks : List (Addr × Mk)) {Q : Value → Shared → Prop} (hh : A.handled = none) (hl : s.heap.IsList l items) (hit : items.toList = ks.map fun p => Value.ref p.1) (hk : ∀ p, p ∈ ks → IsM s.heap p.2 p.1) (hnd : (ks.map (·.2)).Nodup) (hb : ks.length < 64) (hu : A.units + 64 < cLine)
    (h : ∀ (h' : Heap) (tk : Nat) L es ep t, MSet w h' s.heap.objs.size L es ep t → L.Perm ks → (∀ b o, s.heap.get? b = some o → h'.get? b = some o) → Q (.ref s.heap.objs.size) { s with heap := h', toks := tk }) :
    wpAny (model P w) A (call (.type "set") [.ref l]) Q E s := by
  have hisz : items.size = ks.length := by
    have q := congrArg List.length hit
    rw [Array.length_toList, List.length_map] at q
    exact q
  obtain ⟨c, tl, hmro⟩ := F.called_set.mro
  have hmade := F.called_set.made
  have hsub := F.called_set.sub
  refine wpAny_call (codeAny_of_tree ?_)
  show wpAny _ _ (callAny (.type "set") _) _ _ _
  refine wpAny_pure ⟨Code.quiet_builtin _ (by decide +kernel), codeAny_builtin F.entry_type_call ?_⟩
  rw [Around.under_plain (weight_type_call_type "set" [.ref l] []) rfl]
  have h1 := F.called_set.notType
  have h2 := F.called_set.canCreate
  have hct := F.typeCall_set_1 (.ref l)
  repeat (any_goals (first | assumption | wp_step))
  refine codeAny_mono (code_set_led1 (.ref l) (E := E) (Q₁ := fun obj s₁ => obj = .ref s.heap.objs.size ∧ s₁ = { s with heap := s.heap.push { cls := .type "set", dict := none, data := .set #[] 0 (.fresh 0 0 (!w.params.followText "set-order")) } }) ⟨rfl, rfl⟩) fun r s₁ hr => ?_
  cases r with
  | error e => exact hr
  | ok fl =>
    cases fl with
    | ret obj =>
      obtain ⟨rfl, rfl⟩ := hr
      have hS : (s.heap.push { cls := .type "set", dict := none, data := .set #[] 0 (.fresh 0 0 (!w.params.followText "set-order")) }).get? s.heap.objs.size = some { cls := .type "set", dict := none, data := .set #[] 0 (.fresh 0 0 (!w.params.followText "set-order")) } := Heap.get?_push_size _ rfl
      have hT : Shared.TypeIs { s with heap := s.heap.push { cls := .type "set", dict := none, data := .set #[] 0 (.fresh 0 0 (!w.params.followText "set-order")) } } (.ref s.heap.objs.size) "set" := ⟨_, hS, rfl⟩
      have hli := F.called_set.init.lookup
      have hbi := F.called_set.init.bind (.ref s.heap.objs.size)
      repeat (any_goals (first | assumption | wp_step))
      refine codeAny_mono (codeAny_call_builtin (R := wants (fun r s₂ => r = .none ∧ ∃ h' tk L es ep t, s₂ = { s with heap := h', toks := tk } ∧ MSet w h' s.heap.objs.size L es ep t ∧ L.Perm ks ∧
          (∀ b o, s.heap.get? b = some o → h'.get? b = some o)) E) F.called_set.init.plain F.entry_set_init (check_set_init_1 hT ?_)) fun r₂ s₂ hr₂ => ?_
      · obtain ⟨ol, hol, hcl, nl, hdl⟩ := hl
        obtain ⟨ocls, odict, odata, oslots⟩ := ol
        simp only at hcl hdl
        subst hcl; subst hdl
        have hol' : (s.heap.push { cls := .type "set", dict := none, data := .set #[] 0 (.fresh 0 0 (!w.params.followText "set-order")) }).get? l = some { cls := .type "list", dict := odict, data := .seq items nl, slots := oslots } := Heap.get?_push_of_some _ hol
        have hsls := F.sub_list_set
        have hslf := F.sub_list_frozenset
        have hne : (Value.type "list" == Value.type "dict") = false := by decide
        have hl1 : (s.heap.push { cls := .type "set", dict := none, data := .set #[] 0 (.fresh 0 0 (!w.params.followText "set-order")) }).IsList l items := ⟨_, hol', rfl, nl, rfl⟩
        unfold Builtin.«set.__init__» noKeywords Builtin.Frozenset.updateFrom
        generalize hPI : pyIter = PI
        wp_walk
        subst hPI
        refine wpAny_pyIter_list hl1 ?_
        refine wpAny_bind (wpAny_runValue ?_)
        have hlS : l < s.heap.objs.size := Heap.lt_size hol
        have hh3 : A.in1.in1.in1.handled = none := by simp [hh]
        have hz1 : (s.heap.push { cls := .type "set", dict := none, data := .set #[] 0 (.fresh 0 0 (!w.params.followText "set-order")) }).objs.size = s.heap.objs.size + 1 := Heap.size_push ..
        have hneI : l ≠ (s.heap.push { cls := .type "set", dict := none, data := .set #[] 0 (.fresh 0 0 (!w.params.followText "set-order")) }).objs.size := by
          rw [Heap.size_push]; exact Nat.ne_of_lt (Nat.lt_succ_of_lt hlS)
        have hSf : s.heap.objs.size ∉ [(s.heap.push { cls := .type "set", dict := none, data := .set #[] 0 (.fresh 0 0 (!w.params.followText "set-order")) }).objs.size, l] := by
          rw [Heap.size_push]; simp only [List.mem_cons, List.mem_singleton, List.not_mem_nil, or_false, not_or]
          exact ⟨Nat.ne_of_lt (Nat.lt_succ_self _), Nat.ne_of_gt hlS⟩
        have hval : ∀ (i : Nat) (v : Value), items[i]? = some v → ∃ p, ks[i]? = some p ∧ v = .ref p.1 := fun i v hv => by
          rw [← Array.getElem?_toList, hit, List.getElem?_map] at hv
          obtain ⟨p, e1, e2⟩ := Option.map_eq_some_iff.mp hv
          exact ⟨p, e1, e2.symm⟩
        have gone : ∀ b, s.heap.objs.size ≤ b → s.heap.get? b = none := fun b hb => by
          cases q : s.heap.get? b with
          | none => rfl
          | some o => exact absurd (Heap.lt_size q) (Nat.not_lt.mpr hb)
        refine loopM ((Walks.list hh3 _ l hneI items).toS) s.heap.objs.size hSf ks hisz hnd hb hval s.heap hk (gone _ (Nat.le_refl _)) (fun b hb => gone b (by
            rw [List.mem_singleton.mp hb, Heap.size_push]; omega)) (by simp only [Around.in1_units]; omega) (items.size - 0) 0 _ (by omega) (Nat.zero_le _)
          ⟨⟨_, Heap.get?_push_size _ rfl, rfl, rfl⟩, (hl1.push _)⟩ (fun b o e => Heap.get?_push_of_some _ (Heap.get?_push_of_some _ e)) ?hS0 ?hR
        case hS0 =>
          have hget : ((s.heap.push { cls := .type "set", dict := none, data := .set #[] 0 (.fresh 0 0 (!w.params.followText "set-order")) }).push { cls := .type "list_iterator", data := .fields #[.ref l, .int 0 0] }).get? s.heap.objs.size
              = some { cls := .type "set", dict := none, data := .set #[] 0 (.fresh 0 0 (!w.params.followText "set-order")) } := Heap.get?_push_of_some _ hS
          exact ⟨[], #[], 0, _, newM hget, .refl _⟩
        case hR =>
          intro s' L es ep t mv T pm kp
          obtain ⟨h', g2, d', tk', os'⟩ := s'
          have eg : g2 = s.gens := mv.gens
          have ed : d' = s.drawn := mv.drawn
          have eo : os' = s.os := mv.os
          subst eg; subst ed; subst eo
          show wpAny _ _ _ _ _ _
          refine wpAny_pure ?_
          show wpAny _ _ (ret Value.none) _ _ _
          exact wpAny_pure ⟨rfl, h', tk', L, es, ep, t, rfl, T, pm, kp⟩
      · cases r₂ with
        | error e => exact hr₂
        | ok fl₂ =>
          cases fl₂ with
          | ret r =>
            obtain ⟨rfl, h', tk, L, es, ep, t, rfl, hS', hc', hk'⟩ := hr₂
            repeat (any_goals (first | assumption | wp_step))
            exact h _ _ _ _ _ _ hS' hc' hk'
          | _ => exact hr₂.elim
    | _ => exact hr.elim
end
/-! ### len(set(xs)) -/
def pairD : PyData → Option (Str × Int)
  | .tuple [.str x, .int i] => some (x, i)
  | _ => none
def pairsD : List PyData → Option (List (Str × Int))
  | [] => some []
  | d :: ds => match pairD d, pairsD ds with
    | some p, some ps => some (p :: ps)
    | _, _ => none
theorem pairD_some {d : PyData} {p : Mk} (h : pairD d = some p) : d = .tuple [.str p.1, .int p.2] := by
  unfold pairD at h
  split at h
  · cases h; rfl
  · cases h
theorem marks_at {X : Cx} {pins : List (Addr × Obj)} {σ : L2.St} {H G : Hp} {s : Shared} (I : L2.Inv X pins σ H s) (gh : Same G H) : ∀ {ds : List PyData} {ps : List Mk} {xs : List V} {us : List Value}, pairsD ds = some ps → DpAll X.K G xs ds → Vals xs us →
    ∃ ks : List (Addr × Mk), us = ks.map (fun p => Value.ref p.1) ∧ ks.map (·.2) = ps ∧ ∀ p, p ∈ ks → IsM s.heap p.2 p.1
  | [], ps, xs, us, e, da, rv => by
    cases da
    cases rv
    cases e
    exact ⟨[], rfl, rfl, fun p h => (nomatch h)⟩
  | d :: ds, ps, _, _, e, .cons dv da, .cons r rv => by
    simp only [pairsD] at e
    cases e1 : pairD d with
    | none => rw [e1] at e; simp at e
    | some p =>
      cases e2 : pairsD ds with
      | none => rw [e1, e2] at e; simp at e
      | some ps' =>
        rw [e1, e2] at e
        simp only [Option.some.injEq] at e
        subst e
        obtain ⟨ks, h1, h2, h3⟩ := marks_at I gh e2 da rv
        have ed := pairD_some e1
        subst ed
        obtain ⟨as, rd⟩ := Dp.reads I _ _ _ (dp_mono gh _ _ dv) r
        have nk := nested_of _ _ as (nkP p) rd rfl
        cases dv with
        | tup q1 q2 =>
          cases r
          refine ⟨(_, p) :: ks, by rw [h1]; rfl, by rw [← h2]; rfl, fun q hq => ?_⟩
          rcases List.mem_cons.mp hq with rfl | hq
          · exact nk
          · exact h3 q hq
def dLenSet : PyData → Option PyData
  | .list ds => match pairsD ds with
    | some ps => if ps.Nodup ∧ ps.length < 60 then some (.int ps.length) else none
    | none => match intsD ds with
      | some ns => if ns.Nodup ∧ ns.length < 60 then some (.int ns.length) else none
      | none => none
  | _ => none
section
variable {X : Cx} {a : Expr} {pos p p1 p2 : Pos} {O : Os} {F : Fd}
theorem t_isN {F : Fd} {a : Expr} {q : Pos} {jj : Nat} (ha : PE X a (RD X.K O F)) : PT X (.Compare a [.Is] [.Constant .none jj q] pos) (RT X.K O (asB (f1 dIsN F))) :=
  pt_imp (pt_cmpR op_isN ha (pe_non (pos := q)) (nobehind _ (by decide) (by decide))) fun σ H Q ⟨Γ, G, ρ, b, R, eb, qq⟩ => by
    have e1 := asB_some eb
    unfold f1 at e1
    cases e2 : F ρ with
    | none => rw [e2] at e1; cases e1
    | some d =>
      rw [e2] at e1
      cases e1
      exact ⟨Γ, G, ρ, d, R, e2, fun v G1 H1 s1 dv => ⟨rfl, _, by rw [dp_non dv], by cases d <;> exact qq G1 H1 s1⟩⟩
theorem dLenSet_some {d r : PyData} (h : dLenSet d = some r) : ∃ ds, d = .list ds ∧ ((∃ ps : List Mk, pairsD ds = some ps ∧ ps.Nodup ∧ ps.length < 60 ∧ r = .int ps.length) ∨ ∃ ns : List Int, intsD ds = some ns ∧ ns.Nodup ∧ ns.length < 60 ∧ r = .int ns.length) := by
  unfold dLenSet at h
  split at h
  · rename_i ds
    refine ⟨ds, rfl, ?_⟩
    split at h
    · rename_i ps e
      split at h
      · rename_i hc; cases h; exact .inl ⟨ps, e, hc.1, hc.2, rfl⟩
      · cases h
    · split at h
      · rename_i ns e
        split at h
        · rename_i hc; cases h; exact .inr ⟨ns, e, hc.1, hc.2, rfl⟩
        · cases h
      · cases h
  · cases h
theorem d_lenSet (hc : X.calm = true) (hu : X.A.units + 200 < cLine) (hg : Gl X "len") (hm : X.mg "len" = none) (hv : bootBuiltins "len" = some (.builtin "len")) (hg2 : Gl X "set") (hm2 : X.mg "set" = none) (hv2 : bootBuiltins "set" = some (.type "set")) (ha : PE X a (RB X.K O F))
    (n1 : starEach [a] X.env = (false, eval a X.env) :: starEach [] X.env := by rfl) :
    PE X (.Call (.Name "len" p) [.Call (.Name "set" p1) [a] [] p2] [] pos) (RD X.K O (f1 dLenSet F)) := ⟨fun pins s σ H Q I ⟨Γ, G, ρ, d, R, ef, q⟩ => by
  unfold f1 at ef
  cases e1 : F ρ with
  | none => rw [e1] at ef; cases ef
  | some d0 =>
    rw [e1] at ef
    obtain ⟨ds, rfl, two⟩ := dLenSet_some ef
    rcases two with ⟨ps, e2, hnd, hl, rfl⟩ | ⟨ns, e2, hnd, hl, rfl⟩
    · refine Call_ (ld_blt I hg hm PySem.boot_len ?_)
      refine PyProof.Rows.callWith_builtin1 (PyProof.Rows.args_cons ?_ rfl) rfl rfl
      refine Call_ (ld_blt I hg2 hm2 PyProof.Rows.boot_set ?_)
      refine PyProof.Rows.callWith_type1 (PyProof.Rows.args_cons (thn (ha.run pins s σ H _ I ⟨Γ, G, ρ, _, R, e1, fun v G1 H1 s1 b => (⟨G1, s1, b⟩ : ∃ G1, Stp G H G1 H1 ∧ Bd X.K G1 H1 v (.list ds))⟩) fun v s1 ⟨x, H1, I1, r1, G1, st, b⟩ => PyProof.Rows.args_nil ?_) n1) n1 rfl
      obtain ⟨l, xs, rfl, hq, da⟩ := b.list st.gh
      cases r1
      obtain ⟨its, r, pl, hz⟩ := I1.list hq
      obtain ⟨ks, h1, h2, h3⟩ := marks_at I1 st.gh e2 da r
      have lk : ks.length = ps.length := by rw [← h2, List.length_map]
      refine call_setM ks (I1.ok.hd hc) pl.isList (by simpa using h1) h3 (by rw [h2]; exact hnd) (by omega) (by omega) fun h' tk L es ep t T pm hk => ?_
      refine PyProof.Rows.args_nil ?_
      obtain ⟨o, ho, hex, hd⟩ := T.at_
      have sz := T.size
      have lL := pm.length_eq
      have I2 : L2.Inv X pins σ H1 { s1 with heap := h', toks := tk } := I1.kept fun b o e => hk b o e
      refine call_len_set ho hex hd T.fits (by rw [sz] <;> omega) ⟨.int ps.length, H1, I2.tok _, ⟨_, by rw [sz, lL, lk]⟩, q _ G1 H1 st (.int _)⟩
    · refine (pe_lenSetI hc hg hm hg2 hm2 ha n1).run pins s σ H Q I ⟨Γ, G, ρ, _, R, e1, fun v G1 H1 s1 b => ?_⟩
      obtain ⟨t, vs, rfl, hq, da⟩ := b.list s1.gh
      have ev := intsD_dp e2 da
      subst ev
      exact ⟨t, ns, rfl, hq, by omega, hnd, q _ G1 H1 s1 (.int _)⟩⟩
end
end Dat
open PySem PySem.Spec PyProof.Rows L2
namespace Dat
def top (i : Nat) : Stmt := PySem.Challenge.pw_tickoff_k06_whole_picked.main.body.getD i (.Pass ⟨0, 0, 0, 0⟩)
section
variable {P : Program} {w : World} {K : PySem.W.Frag} {mg : Str → Option Value} {base : Heap}
abbrev s_marks_of : Stmt := top 1
abbrev N_marks_of : List Str := ["match", "place"]
theorem sc_marks_of : FnScope N_marks_of ["match"] (defScope s_marks_of) := ⟨rfl, rfl, rfl, by decide +kernel, rfl, by decide +kernel, by decide +kernel⟩
def B_marks_of : Bs := (retS (f2 dAdd (lstF (lcF (seqA (f2 dIx (vF 0) (cF (.int 0)))) [1] (tgN 1) yesT (tupF (consA (cF (.str "bank")) (consA (vF 1) nilA))))) (lstF (lcF (seqA (f2 dIx (vF 0) (cF (.int 1)))) [1] (tgN 1) yesT (tupF (consA (cF (.str "book")) (consA (vF 1) nilA)))))))
def S_marks_of : List PyData → Option PyData := runF 2 1 B_marks_of
theorem kd_marks_of {f : Addr} {fd : FuncData} (h : Here K mg "marks_of" s_marks_of ["match"] f fd)   : Kn P w K mg base "marks_of" 1 ["match"] S_marks_of :=
  kd_of h (fn_d h.fn sc_marks_of rfl rfl (by decide) fun cdv A outer s H E hr => ⟨[], [], (s_one (s_ret (d_op op_dAdd (d_b (o_d (o_lc (own := [("place", 1)]) rfl sc_marks_of.nd (i_seq (d_ix (b_var 0 (pv 0)) (d_b d_int) (fun _ _ => rfl))) (blkOk_by (own := [("place", 1)]) (N := N_marks_of) (sc := defScope s_marks_of) (by decide +kernel)) (tg_n rfl) (by decide) rfl (fun _ _ _ _ _ => (pg_name (i := 1) sc_marks_of.nd rfl (by first | exact Or.inl rfl | exact Or.inr rfl))) (fun _ _ _ _ _ => ts_nil) (fun _ _ _ _ _ => (d_tup (a_cons d_str (a_cons (d_var 1 (pv 1)) a_nil))))))) (d_b (o_d (o_lc (own := [("place", 1)]) rfl sc_marks_of.nd (i_seq (d_ix (b_var 0 (pv 0)) (d_b d_int) (fun _ _ => rfl))) (blkOk_by (own := [("place", 1)]) (N := N_marks_of) (sc := defScope s_marks_of) (by decide +kernel)) (tg_n rfl) (by decide) rfl (fun _ _ _ _ _ => (pg_name (i := 1) sc_marks_of.nd rfl (by first | exact Or.inl rfl | exact Or.inr rfl))) (fun _ _ _ _ _ => ts_nil) (fun _ _ _ _ _ => (d_tup (a_cons d_str (a_cons (d_var 1 (pv 1)) a_nil))))))))))⟩)
abbrev s_without : Stmt := top 3
abbrev N_without : List Str := ["rest", "match", "marks", "mark"]
theorem sc_without : FnScope N_without ["rest", "match"] (defScope s_without) := ⟨rfl, rfl, rfl, by decide +kernel, rfl, by decide +kernel, by decide +kernel⟩
def B_without : Bs := (seqS (setS 2 (fL S_marks_of (consA (vF 1) nilA))) (retS (fL dTuple (consA (lstF (lcF (seqA (vF 0)) [3] (tgN 3) (asB (f2 dNotIn (vF 3) (vF 2))) (vF 3))) nilA))))
def S_without : List PyData → Option PyData := runF 4 2 B_without
theorem kd_without {f : Addr} {fd : FuncData} (h : Here K mg "without" s_without ["rest", "match"] f fd) (m_tuple : mg "tuple" = none) (c_marks_of : Kn P w K mg base "marks_of" 1 ["match"] S_marks_of) : Kn P w K mg base "without" 2 ["rest", "match"] S_without :=
  kd_of h (fn_d h.fn sc_without rfl rfl (by decide) fun cdv A outer s H E hr => ⟨[], [], (s_cons (s_set (i := 2) sc_without.nd rfl (by first | exact Or.inl rfl | exact Or.inr rfl) rfl (d_callK c_marks_of hr (by decide) pass0 (by rfl) (a_cons (d_var 1 (pv 1)) a_nil))) (s_one (s_ret (d_callT c_tuple (by rfl) m_tuple (by decide +kernel) (ab_cons (d_b (o_d (o_lc (own := [("mark", 3)]) rfl sc_without.nd (i_seq (d_var 0 (pv 0))) (blkOk_by (own := [("mark", 3)]) (N := N_without) (sc := defScope s_without) (by decide +kernel)) (tg_n rfl) (by decide) rfl (fun _ _ _ _ _ => (pg_name (i := 3) sc_without.nd rfl (by first | exact Or.inl rfl | exact Or.inr rfl))) (fun _ _ _ _ _ => (ts_one (t_cmp (op_dNotIn (hu200 hr)) (b_var 3 (pv 3)) (b_var 2 (pv 2)) (by rfl)))) (fun _ _ _ _ _ => (d_var 3 (pv 3)))))) ab_nil)))))⟩)
abbrev s_is_open : Stmt := top 4
abbrev N_is_open : List Str := ["rest", "match", "marks", "mark"]
theorem sc_is_open : FnScope N_is_open ["rest", "match"] (defScope s_is_open) := ⟨rfl, rfl, rfl, by decide +kernel, rfl, by decide +kernel, by decide +kernel⟩
def B_is_open : Bs := (seqS (setS 2 (fL S_marks_of (consA (vF 1) nilA))) (retS (andF (f2 dIn (f2 dIx (vF 0) (cF (.int 0))) (vF 2)) (fL dAll (consA (lstF (lcF (seqA (vF 2)) [3] (tgN 3) yesT (f2 dIn (vF 3) (vF 0)))) nilA)))))
def S_is_open : List PyData → Option PyData := runF 4 2 B_is_open
theorem kd_is_open {f : Addr} {fd : FuncData} (h : Here K mg "is_open" s_is_open ["rest", "match"] f fd) (m_all : mg "all" = none) (c_marks_of : Kn P w K mg base "marks_of" 1 ["match"] S_marks_of) : Kn P w K mg base "is_open" 2 ["rest", "match"] S_is_open :=
  kd_of h (fn_d h.fn sc_is_open rfl rfl (by decide) fun cdv A outer s H E hr => ⟨[], [], (s_cons (s_set (i := 2) sc_is_open.nd rfl (by first | exact Or.inl rfl | exact Or.inr rfl) rfl (d_callK c_marks_of hr (by decide) pass0 (by rfl) (a_cons (d_var 1 (pv 1)) a_nil))) (s_one (s_ret (d_and (d_cmp (op_dIn (hu200 hr)) (d_b (d_ix (b_var 0 (pv 0)) (d_b d_int) (fun _ _ => rfl))) (b_var 2 (pv 2)) (by rfl)) (d_one (d_callB (c_all rfl) (by rfl) m_all (by decide +kernel) (ab_cons (d_b (o_d (o_lc (own := [("mark", 3)]) rfl sc_is_open.nd (i_seq (d_var 2 (pv 2))) (blkOk_by (own := [("mark", 3)]) (N := N_is_open) (sc := defScope s_is_open) (by decide +kernel)) (tg_n rfl) (by decide) rfl (fun _ _ _ _ _ => (pg_name (i := 3) sc_is_open.nd rfl (by first | exact Or.inl rfl | exact Or.inr rfl))) (fun _ _ _ _ _ => ts_nil) (fun _ _ _ _ _ => (d_cmp (op_dIn (hu200 hr)) (b_var 3 (pv 3)) (b_var 0 (pv 0)) (by rfl)))))) ab_nil)))))))⟩)
abbrev s_filled : Stmt := top 5
abbrev N_filled : List Str := ["found", "rest", "matches", "best", "match"]
theorem sc_filled : FnScope N_filled ["found", "rest", "matches"] (defScope s_filled) := ⟨rfl, rfl, rfl, by decide +kernel, rfl, by decide +kernel, by decide +kernel⟩
def B_filled (self : GT) : Bs := (seqS (ifS (asB (tabF2 hIn 0 (vF 1))) (retS (tabF2 kvGet 0 (vF 1))) nopS) (seqS (setS 3 (cF (.int 0))) (seqS (ifS (asB (f2 dGt (fL dLen (consA (vF 1) nilA)) (cF (.int 0)))) (seqS (setE 3 (opE dAdd (cF (.int 1)) (callTE self 0 (consA (slF dSl (vF 1) (someP (cF (.int 1))) noP) (consA (vF 2) nilA))))) (forS (seqA (vF 2)) (tgN 4) (ifS (asB (fL S_is_open (consA (vF 1) (consA (vF 4) nilA)))) (setE 3 (fLE dMin (consE (vF 3) (lastE (callTE self 0 (consA (fL S_without (consA (vF 1) (consA (vF 4) nilA))) (consA (vF 2) nilA))))))) nopS))) nopS) (seqS (tabSetS 0 (vF 1) (vF 3)) (retS (vF 3))))))
def S_filled : Nat → GT
  | 0 => fun _ _ => none
  | n + 1 => runT 5 3 (B_filled (S_filled n))
theorem kr_filled {f : Addr} {fd : FuncData} (h : Here K mg "filled" s_filled ["found", "rest", "matches"] f fd) (m_len : mg "len" = none) (m_min : mg "min" = none) (c_is_open : Kn P w K mg base "is_open" 2 ["rest", "match"] S_is_open) (c_without : Kn P w K mg base "without" 2 ["rest", "match"] S_without) : ∀ n, KnT P w K mg base "filled" (2 + n) ["found", "rest", "matches"] (S_filled n)
  | 0 => KnT.zero h
  | n + 1 => by
    have c_filled := kr_filled h m_len m_min c_is_open c_without n
    exact kt_of h (fn_dT (k := 2 + n) h.fn sc_filled rfl rfl (by decide) fun cdv A outer s H E hr => ⟨[(0, .tab w)], [], (s_cons (s_if (t_tabIn 0 (by repeat (first | exact List.Mem.head _ | apply List.Mem.tail)) (hu200 hr) (d_var 1 (pv 1)) (pv 0)) (s_one (s_ret (d_tabIx 0 (by repeat (first | exact List.Mem.head _ | apply List.Mem.tail)) (hu200 hr) (pv 0) (d_var 1 (pv 1)) (fun _ _ => rfl)))) s_nil) (s_cons (s_set (i := 3) sc_filled.nd rfl (by first | exact Or.inl rfl | exact Or.inr rfl) rfl d_int) (s_cons (s_if (t_cmp op_dGt (d_b (d_callB c_len (by rfl) m_len (by decide +kernel) (ab_cons (b_var 1 (pv 1)) ab_nil))) (d_b d_int) (by rfl)) (s_cons (s_setE (i := 3) sc_filled.nd rfl (by first | exact Or.inl rfl | exact Or.inr rfl) rfl (e_op op_dAdd d_int (e_callT 0 (by repeat (first | exact List.Mem.head _ | apply List.Mem.tail)) c_filled hr (by omega) (by rfl) (pv 0) (a_cons (d_sl (b_var 1 (pv 1)) (p_some (d_b d_int)) p_none) (a_cons (d_var 2 (pv 2)) a_nil))))) (s_one (s_for PassesOwn.never rfl (i_seq (d_var 2 (pv 2))) (tg_n rfl) (pg_name (i := 4) sc_filled.nd rfl (by first | exact Or.inl rfl | exact Or.inr rfl)) (s_one (s_if (t_val (d_callK c_is_open hr (by omega) pass0 (by rfl) (a_cons (d_var 1 (pv 1)) (a_cons (d_var 4 (pv 4)) a_nil)))) (s_one (s_setE (i := 3) sc_filled.nd rfl (by first | exact Or.inl rfl | exact Or.inr rfl) rfl (e_callB (c_min rfl) (by rfl) m_min (by decide +kernel) (ae_cons (d_var 3 (pv 3)) (ae_last (e_callT 0 (by repeat (first | exact List.Mem.head _ | apply List.Mem.tail)) c_filled hr (by omega) (by rfl) (pv 0) (a_cons (d_callK c_without hr (by omega) pass0 (by rfl) (a_cons (d_var 1 (pv 1)) (a_cons (d_var 4 (pv 4)) a_nil))) (a_cons (d_var 2 (pv 2)) a_nil)))))))) s_nil))))) s_nil) (s_cons (s_tabSet 0 (by repeat (first | exact List.Mem.head _ | apply List.Mem.tail)) (hu200 hr) (d_var 3 (pv 3)) (pv 0) (d_var 1 (pv 1))) (s_one (s_ret (d_var 3 (pv 3))))))))⟩)
theorem kd_filled {f : Addr} {fd : FuncData} (h : Here K mg "filled" s_filled ["found", "rest", "matches"] f fd) (m_len : mg "len" = none) (m_min : mg "min" = none) (c_is_open : Kn P w K mg base "is_open" 2 ["rest", "match"] S_is_open) (c_without : Kn P w K mg base "without" 2 ["rest", "match"] S_without) : KnT P w K mg base "filled" 14 ["found", "rest", "matches"] (S_filled 12) := kr_filled h m_len m_min c_is_open c_without 12
abbrev s_table : Stmt := top 6
abbrev N_table : List Str := ["group", "matches", "found"]
theorem sc_table : FnScope N_table ["group", "matches"] (defScope s_table) := ⟨rfl, rfl, rfl, by decide +kernel, rfl, by decide +kernel, by decide +kernel⟩
def B_table : Dv → Option Dv := (seqO (tabNewS 2) (seqO (exE (callTE (S_filled 12) 2 (consA (fL dTuple (consA (vF 0) nilA)) (consA (vF 1) nilA)))) (retO 2)))
def S_table : GO := runO 3 2 2 B_table
theorem kd_table {f : Addr} {fd : FuncData} (h : Here K mg "table" s_table ["group", "matches"] f fd) (m_tuple : mg "tuple" = none) (c_filled : KnT P w K mg base "filled" 14 ["found", "rest", "matches"] (S_filled 12)) : KnO P w K mg base "table" 15 ["group", "matches"] S_table :=
  ko_of h (fn_dO h.fn sc_table rfl rfl (by decide) fun cdv A outer s H E hr => (so_cons (W := E0) (OL := []) (s_tab0 (i := 2) sc_table.nd rfl (by first | exact Or.inl rfl | exact Or.inr rfl) rfl (O' := [(2, .tab w)]) rfl) (so_cons (W := E0) (OL := []) (s_exprE (e_callT 2 (by repeat (first | exact List.Mem.head _ | apply List.Mem.tail)) c_filled hr (by decide) (by rfl) (pv 2) (a_cons (d_callT c_tuple (by rfl) m_tuple (by decide +kernel) (ab_cons (b_var 0 (pv 0)) ab_nil)) (a_cons (d_var 1 (pv 1)) a_nil)))) (so_ret 2 (by repeat (first | exact List.Mem.head _ | apply List.Mem.tail)) (pv 2)))))
abbrev s_picked : Stmt := top 7
abbrev N_picked : List Str := ["group", "matches", "told", "rest", "found", "ways", "good", "match"]
theorem sc_picked : FnScope N_picked ["group", "matches"] (defScope s_picked) := ⟨rfl, rfl, rfl, by decide +kernel, rfl, by decide +kernel, by decide +kernel⟩
def B_picked : Bs := (seqS (setTabS 2 S_table (consA (vF 0) (consA (vF 1) nilA))) (seqS (setS 3 (fL dTuple (consA (vF 0) nilA))) (seqS (setO 4 (few nilA)) (seqS (whGo (asB (f2 dGt (fL dLen (consA (vF 3) nilA)) (cF (.int 0)))) (seqS (setS 5 (lstF (lcF (seqA (vF 1)) [7] (tgN 7) (asB (fL S_is_open (consA (vF 3) (consA (vF 7) nilA)))) (vF 7)))) (seqS (setS 6 (lstF (lcF (seqA (vF 5)) [7] (tgN 7) (asB (f2 dEq (tabF2 kvGet 2 (fL S_without (consA (vF 3) (consA (vF 7) nilA)))) (tabF2 kvGet 2 (vF 3)))) (vF 7)))) (ifS (asB (f2 dEq (vF 6) (lstF (few nilA)))) (setS 3 (slF dSl (vF 3) (someP (cF (.int 1))) noP)) (seqS (appS 4 (f2 dIx (vF 6) (cF (.int 0)))) (setS 3 (fL S_without (consA (vF 3) (consA (f2 dIx (vF 6) (cF (.int 0))) nilA)))))))) 100000) (retS (vF 4))))))
def S_picked : List PyData → Option PyData := runF 8 2 B_picked
theorem kd_picked {f : Addr} {fd : FuncData} (h : Here K mg "picked" s_picked ["group", "matches"] f fd) (m_tuple : mg "tuple" = none) (m_len : mg "len" = none) (c_table : KnO P w K mg base "table" 15 ["group", "matches"] S_table) (c_is_open : Kn P w K mg base "is_open" 2 ["rest", "match"] S_is_open) (c_without : Kn P w K mg base "without" 2 ["rest", "match"] S_without) : Kn P w K mg base "picked" 16 ["group", "matches"] S_picked :=
  kd_of h (fn_d h.fn sc_picked rfl rfl (by decide) fun cdv A outer s H E hr => ⟨[(4, .lst), (2, .tab w)], [], (s_cons (s_setCallO (i := 2) sc_picked.nd rfl (by first | exact Or.inl rfl | exact Or.inr rfl) rfl (O' := [(2, .tab w)]) rfl c_table hr (by decide) (by rfl) (a_cons (d_var 0 (pv 0)) (a_cons (d_var 1 (pv 1)) a_nil))) (s_cons (s_set (i := 3) sc_picked.nd rfl (by first | exact Or.inl rfl | exact Or.inr rfl) rfl (d_callT c_tuple (by rfl) m_tuple (by decide +kernel) (ab_cons (b_var 0 (pv 0)) ab_nil))) (s_cons (s_setO (i := 4) sc_picked.nd rfl (by first | exact Or.inl rfl | exact Or.inr rfl) rfl (O' := [(4, .lst), (2, .tab w)]) rfl (o_lst a_nil)) (s_cons (s_while 100000 PassesOwn.never (t_cmp op_dGt (d_b (d_callB c_len (by rfl) m_len (by decide +kernel) (ab_cons (b_var 3 (pv 3)) ab_nil))) (d_b d_int) (by rfl)) (s_cons (s_setLc (i := 5) (own := [("match", 7)]) rfl sc_picked.nd rfl rfl rfl (sw_true rfl rfl rfl (by decide +kernel)) (i_seq (d_var 1 (pv 1))) (blkOk_by (own := [("match", 7)]) (N := N_picked) (sc := defScope s_picked) (by decide +kernel)) (tg_n rfl) (by decide) rfl (fun _ _ _ _ _ => (pg_name (i := 7) sc_picked.nd rfl (by first | exact Or.inl rfl | exact Or.inr rfl))) (fun _ _ _ _ _ => (ts_one (t_val (d_callK c_is_open hr (by decide) pass0 (by rfl) (a_cons (d_var 3 (pv 3)) (a_cons (d_var 7 (pv 7)) a_nil)))))) (fun _ _ _ _ _ => (d_var 7 (pv 7)))) (s_cons (s_setLc (i := 6) (own := [("match", 7)]) rfl sc_picked.nd rfl rfl rfl (sw_true rfl rfl rfl (by decide +kernel)) (i_seq (d_var 5 (pv 5))) (blkOk_by (own := [("match", 7)]) (N := N_picked) (sc := defScope s_picked) (by decide +kernel)) (tg_n rfl) (by decide) rfl (fun _ _ _ _ _ => (pg_name (i := 7) sc_picked.nd rfl (by first | exact Or.inl rfl | exact Or.inr rfl))) (fun _ _ _ _ _ => (ts_one (t_cmp (op_dEq (hu200 hr)) (d_b (d_tabIx 2 (by repeat (first | exact List.Mem.head _ | apply List.Mem.tail)) (hu200 hr) (pv 2) (d_callK c_without hr (by decide) pass0 (by rfl) (a_cons (d_var 3 (pv 3)) (a_cons (d_var 7 (pv 7)) a_nil))) (fun _ _ => rfl))) (d_b (d_tabIx 2 (by repeat (first | exact List.Mem.head _ | apply List.Mem.tail)) (hu200 hr) (pv 2) (d_var 3 (pv 3)) (fun _ _ => rfl))) (by rfl)))) (fun _ _ _ _ _ => (d_var 7 (pv 7)))) (s_one (s_if (t_cmp (op_dEq (hu200 hr)) (b_var 6 (pv 6)) (d_b (o_d (o_lst a_nil))) (by rfl)) (s_one (s_set (i := 3) sc_picked.nd rfl (by first | exact Or.inl rfl | exact Or.inr rfl) rfl (d_sl (b_var 3 (pv 3)) (p_some (d_b d_int)) p_none))) (s_cons (s_app 4 (by simp) (pe_bm PySem.F.plainAttrs_list PySem.F.slot_list_append PySem.F.type_list_append mt_append (pv 4) (pa_cons (d_ix (b_var 6 (pv 6)) (d_b d_int) (fun _ _ => rfl)) pa_nil))) (s_one (s_set (i := 3) sc_picked.nd rfl (by first | exact Or.inl rfl | exact Or.inr rfl) rfl (d_callK c_without hr (by decide) pass0 (by rfl) (a_cons (d_var 3 (pv 3)) (a_cons (d_ix (b_var 6 (pv 6)) (d_b d_int) (fun _ _ => rfl)) a_nil))))))))))) (s_one (s_retV 4 (pv 4)))))))⟩)
abbrev s__law_cell_at : Stmt := top 9
abbrev N__law_cell_at : List Str := ["_law_script", "_law_k"]
theorem sc__law_cell_at : FnScope N__law_cell_at ["_law_script", "_law_k"] (defScope s__law_cell_at) := ⟨rfl, rfl, rfl, by decide +kernel, rfl, by decide +kernel, by decide +kernel⟩
def B__law_cell_at : Bs := (seqS (ifS (asB (f2 dLt (vF 1) (fL dLen (consA (vF 0) nilA)))) (retS (f2 dIx (vF 0) (vF 1))) nopS) (retS (cF (.int 0))))
def S__law_cell_at : List PyData → Option PyData := runF 2 2 B__law_cell_at
theorem kd__law_cell_at {f : Addr} {fd : FuncData} (h : Here K mg "_law_cell_at" s__law_cell_at ["_law_script", "_law_k"] f fd) (m_len : mg "len" = none)  : Kn P w K mg base "_law_cell_at" 1 ["_law_script", "_law_k"] S__law_cell_at :=
  kd_of h (fn_d h.fn sc__law_cell_at rfl rfl (by decide) fun cdv A outer s H E hr => ⟨[], [], (s_cons (s_if (t_cmp (op_dLt (hu200 hr)) (b_var 1 (pv 1)) (d_b (d_callB c_len (by rfl) m_len (by decide +kernel) (ab_cons (b_var 0 (pv 0)) ab_nil))) (by rfl)) (s_one (s_ret (d_ix (b_var 0 (pv 0)) (b_var 1 (pv 1)) (fun _ _ => rfl)))) s_nil) (s_one (s_ret d_int)))⟩)
abbrev s__law_group : Stmt := top 10
abbrev N__law_group : List Str := ["_law_script", "_law_left", "_law_k", "_law_cell", "_law_found", "_law_at"]
theorem sc__law_group : FnScope N__law_group ["_law_script"] (defScope s__law_group) := ⟨rfl, rfl, rfl, by decide +kernel, rfl, by decide +kernel, by decide +kernel⟩
def B__law_group : Bs := (seqS (setS 1 (lstF (lcF (fL dRange (exN 1 (consA (f2 dMod (fL S__law_cell_at (consA (vF 0) (consA (cF (.int 0)) nilA))) (cF (.int 5))) nilA))) [2] (tgN 2) yesT (tupF (consA (cF (.str "bank")) (consA (vF 2) nilA)))))) (seqS (setS 1 (f2 dAdd (vF 1) (lstF (lcF (fL dRange (exN 1 (consA (f2 dMod (f2 dDiv (fL S__law_cell_at (consA (vF 0) (consA (cF (.int 0)) nilA))) (cF (.int 5))) (cF (.int 4))) nilA))) [2] (tgN 2) yesT (tupF (consA (cF (.str "book")) (consA (vF 2) nilA))))))) (seqS (setS 3 (fL S__law_cell_at (consA (vF 0) (consA (cF (.int 1)) nilA)))) (seqS (setO 4 (few nilA)) (seqS (whGo (asB (f2 dNe (vF 1) (lstF (few nilA)))) (seqS (setS 5 (f2 dMod (vF 3) (fL dLen (consA (vF 1) nilA)))) (seqS (appS 4 (f2 dIx (vF 1) (vF 5))) (seqS (setS 1 (f2 dAdd (slF dSl (vF 1) noP (someP (vF 5))) (slF dSl (vF 1) (someP (f2 dAdd (vF 5) (cF (.int 1)))) noP))) (setS 3 (f2 dDiv (vF 3) (cF (.int 7))))))) 100000) (retS (vF 4)))))))
def S__law_group : List PyData → Option PyData := runF 6 1 B__law_group
theorem kd__law_group {f : Addr} {fd : FuncData} (h : Here K mg "_law_group" s__law_group ["_law_script"] f fd) (m_range : mg "range" = none) (m_len : mg "len" = none) (c__law_cell_at : Kn P w K mg base "_law_cell_at" 1 ["_law_script", "_law_k"] S__law_cell_at) : Kn P w K mg base "_law_group" 2 ["_law_script"] S__law_group :=
  kd_of h (fn_d h.fn sc__law_group rfl rfl (by decide) fun cdv A outer s H E hr => ⟨[(4, .lst)], [], (s_cons (s_setLc (i := 1) (own := [("_law_k", 2)]) rfl sc__law_group.nd rfl rfl rfl (sw_true rfl rfl rfl (by decide +kernel)) (i_range1 (by rfl) m_range (ab_cons (d_b (d_op op_dMod (d_b (d_callK c__law_cell_at hr (by decide) pass0 (by rfl) (a_cons (d_var 0 (pv 0)) (a_cons d_int a_nil)))) (d_b d_int))) ab_nil)) (blkOk_by (own := [("_law_k", 2)]) (N := N__law_group) (sc := defScope s__law_group) (by decide +kernel)) (tg_n rfl) (by decide) rfl (fun _ _ _ _ _ => (pg_name (i := 2) sc__law_group.nd rfl (by first | exact Or.inl rfl | exact Or.inr rfl))) (fun _ _ _ _ _ => ts_nil) (fun _ _ _ _ _ => (d_tup (a_cons d_str (a_cons (d_var 2 (pv 2)) a_nil))))) (s_cons (s_set (i := 1) sc__law_group.nd rfl (by first | exact Or.inl rfl | exact Or.inr rfl) rfl (d_op op_dAdd (b_var 1 (pv 1)) (d_b (o_d (o_lc (own := [("_law_k", 2)]) rfl sc__law_group.nd (i_range1 (by rfl) m_range (ab_cons (d_b (d_op op_dMod (d_b (d_op op_dDiv (d_b (d_callK c__law_cell_at hr (by decide) pass0 (by rfl) (a_cons (d_var 0 (pv 0)) (a_cons d_int a_nil)))) (d_b d_int))) (d_b d_int))) ab_nil)) (blkOk_by (own := [("_law_k", 2)]) (N := N__law_group) (sc := defScope s__law_group) (by decide +kernel)) (tg_n rfl) (by decide) rfl (fun _ _ _ _ _ => (pg_name (i := 2) sc__law_group.nd rfl (by first | exact Or.inl rfl | exact Or.inr rfl))) (fun _ _ _ _ _ => ts_nil) (fun _ _ _ _ _ => (d_tup (a_cons d_str (a_cons (d_var 2 (pv 2)) a_nil))))))))) (s_cons (s_set (i := 3) sc__law_group.nd rfl (by first | exact Or.inl rfl | exact Or.inr rfl) rfl (d_callK c__law_cell_at hr (by decide) pass0 (by rfl) (a_cons (d_var 0 (pv 0)) (a_cons d_int a_nil)))) (s_cons (s_setO (i := 4) sc__law_group.nd rfl (by first | exact Or.inl rfl | exact Or.inr rfl) rfl (O' := [(4, .lst)]) rfl (o_lst a_nil)) (s_cons (s_while 100000 PassesOwn.never (t_cmp (op_dNe (hu200 hr)) (b_var 1 (pv 1)) (d_b (o_d (o_lst a_nil))) (by rfl)) (s_cons (s_set (i := 5) sc__law_group.nd rfl (by first | exact Or.inl rfl | exact Or.inr rfl) rfl (d_op op_dMod (b_var 3 (pv 3)) (d_b (d_callB c_len (by rfl) m_len (by decide +kernel) (ab_cons (b_var 1 (pv 1)) ab_nil))))) (s_cons (s_app 4 (by simp) (pe_bm PySem.F.plainAttrs_list PySem.F.slot_list_append PySem.F.type_list_append mt_append (pv 4) (pa_cons (d_ix (b_var 1 (pv 1)) (b_var 5 (pv 5)) (fun _ _ => rfl)) pa_nil))) (s_cons (s_set (i := 1) sc__law_group.nd rfl (by first | exact Or.inl rfl | exact Or.inr rfl) rfl (d_op op_dAdd (d_b (d_sl (b_var 1 (pv 1)) p_none (p_some (b_var 5 (pv 5))))) (d_b (d_sl (b_var 1 (pv 1)) (p_some (d_b (d_op op_dAdd (b_var 5 (pv 5)) (d_b d_int)))) p_none)))) (s_one (s_set (i := 3) sc__law_group.nd rfl (by first | exact Or.inl rfl | exact Or.inr rfl) rfl (d_op op_dDiv (b_var 3 (pv 3)) (d_b d_int)))))))) (s_one (s_retV 4 (pv 4))))))))⟩)
abbrev s__law_match : Stmt := top 11
abbrev N__law_match : List Str := ["_law_cell", "_law_group_here", "_law_ones", "_law_mark", "_law_others", "_law_count", "_law_many", "_law_k"]
theorem sc__law_match : FnScope N__law_match ["_law_cell", "_law_group_here"] (defScope s__law_match) := ⟨rfl, rfl, rfl, by decide +kernel, rfl, by decide +kernel, by decide +kernel⟩
def T__law_match_7 : Bs := (retS (tupF (consA (fL dTuple (consA (vF 6) nilA)) (consA (tupF (consA (f2 dIx (vF 4) (f2 dMod (f2 dDiv (vF 0) (cF (.int 36))) (fL dLen (consA (vF 4) nilA)))) nilA)) nilA))))
def T__law_match_6 : Bs := (seqS (setS 6 (lstF (ssF (lstF (lcF (fL dRange (exN 1 (consA (vF 5) nilA))) [7] (tgN 7) yesT (f2 dIx (vF 2) (f2 dMod (f2 dAdd (f2 dDiv (vF 0) (cF (.int 2))) (f2 dMul (vF 7) (f2 dAdd (cF (.int 1)) (f2 dMod (f2 dDiv (vF 0) (cF (.int 12))) (cF (.int 3)))))) (fL dLen (consA (vF 2) nilA))))))))) T__law_match_7)
def T__law_match_5 : Bs := (seqS (ifS (asB (f2 dEq (f2 dMod (vF 0) (cF (.int 2))) (cF (.int 0)))) (seqS (setS 6 (lstF (ssF (lstF (lcF (fL dRange (exN 1 (consA (vF 5) nilA))) [7] (tgN 7) yesT (f2 dIx (vF 4) (f2 dMod (f2 dAdd (f2 dDiv (vF 0) (cF (.int 2))) (f2 dMul (vF 7) (f2 dAdd (cF (.int 1)) (f2 dMod (f2 dDiv (vF 0) (cF (.int 12))) (cF (.int 3)))))) (fL dLen (consA (vF 4) nilA))))))))) (retS (tupF (consA (tupF (consA (f2 dIx (vF 2) (f2 dMod (f2 dDiv (vF 0) (cF (.int 36))) (fL dLen (consA (vF 2) nilA)))) nilA)) (consA (fL dTuple (consA (vF 6) nilA)) nilA))))) nopS) T__law_match_6)
def T__law_match_4 : Bs := (seqS (setS 0 (f2 dDiv (vF 0) (cF (.int 8)))) T__law_match_5)
def T__law_match_3 : Bs := (seqS (setS 5 (f2 dIx (lstF (few (consA (cF (.int 1)) (consA (cF (.int 1)) (consA (cF (.int 2)) (consA (cF (.int 3)) nilA)))))) (f2 dMod (f2 dDiv (vF 0) (cF (.int 2))) (cF (.int 4))))) T__law_match_4)
def T__law_match_2 : Bs := (seqS (ifS (orT (asB (f2 dEq (vF 2) (lstF (few nilA)))) (asB (f2 dEq (vF 4) (lstF (few nilA))))) (retS (cF .none)) nopS) T__law_match_3)
def T__law_match_1 : Bs := (seqS (setS 4 (lstF (fL dSorted (consA (lstF (lcF (seqA (vF 1)) [3] (tgN 3) (asB (f2 dEq (f2 dIx (vF 3) (cF (.int 0))) (cF (.str "book")))) (f2 dIx (vF 3) (cF (.int 1))))) nilA)))) T__law_match_2)
def B__law_match : Bs := (seqS (setS 2 (lstF (fL dSorted (consA (lstF (lcF (seqA (vF 1)) [3] (tgN 3) (asB (f2 dEq (f2 dIx (vF 3) (cF (.int 0))) (cF (.str "bank")))) (f2 dIx (vF 3) (cF (.int 1))))) nilA)))) T__law_match_1)
def S__law_match : List PyData → Option PyData := runF 8 2 B__law_match
theorem kd__law_match {f : Addr} {fd : FuncData} (h : Here K mg "_law_match" s__law_match ["_law_cell", "_law_group_here"] f fd) (m_sorted : mg "sorted" = none) (m_set : mg "set" = none) (m_range : mg "range" = none) (m_len : mg "len" = none) (m_tuple : mg "tuple" = none)  : Kn P w K mg base "_law_match" 1 ["_law_cell", "_law_group_here"] S__law_match :=
  kd_of h (fn_d h.fn sc__law_match rfl rfl (by decide) fun cdv A outer s H E hr => ⟨[], [], (s_cons (s_set (i := 2) sc__law_match.nd rfl (by first | exact Or.inl rfl | exact Or.inr rfl) rfl (o_d (o_callB (c_sorted (hu200 hr)) (by rfl) m_sorted (by decide +kernel) (ab_cons (d_b (o_d (o_lc (own := [("_law_mark", 3)]) rfl sc__law_match.nd (i_seq (d_var 1 (pv 1))) (blkOk_by (own := [("_law_mark", 3)]) (N := N__law_match) (sc := defScope s__law_match) (by decide +kernel)) (tg_n rfl) (by decide) rfl (fun _ _ _ _ _ => (pg_name (i := 3) sc__law_match.nd rfl (by first | exact Or.inl rfl | exact Or.inr rfl))) (fun _ _ _ _ _ => (ts_one (t_cmp (op_dEq (hu200 hr)) (d_b (d_ix (b_var 3 (pv 3)) (d_b d_int) (fun _ _ => rfl))) (d_b d_str) (by rfl)))) (fun _ _ _ _ _ => (d_ix (b_var 3 (pv 3)) (d_b d_int) (fun _ _ => rfl)))))) ab_nil)))) (s_cons (s_set (i := 4) sc__law_match.nd rfl (by first | exact Or.inl rfl | exact Or.inr rfl) rfl (o_d (o_callB (c_sorted (hu200 hr)) (by rfl) m_sorted (by decide +kernel) (ab_cons (d_b (o_d (o_lc (own := [("_law_mark", 3)]) rfl sc__law_match.nd (i_seq (d_var 1 (pv 1))) (blkOk_by (own := [("_law_mark", 3)]) (N := N__law_match) (sc := defScope s__law_match) (by decide +kernel)) (tg_n rfl) (by decide) rfl (fun _ _ _ _ _ => (pg_name (i := 3) sc__law_match.nd rfl (by first | exact Or.inl rfl | exact Or.inr rfl))) (fun _ _ _ _ _ => (ts_one (t_cmp (op_dEq (hu200 hr)) (d_b (d_ix (b_var 3 (pv 3)) (d_b d_int) (fun _ _ => rfl))) (d_b d_str) (by rfl)))) (fun _ _ _ _ _ => (d_ix (b_var 3 (pv 3)) (d_b d_int) (fun _ _ => rfl)))))) ab_nil)))) (s_cons (s_if (t_w (w_or (t_cmp (op_dEq (hu200 hr)) (b_var 2 (pv 2)) (d_b (o_d (o_lst a_nil))) (by rfl)) (w_or1 (t_cmp (op_dEq (hu200 hr)) (b_var 4 (pv 4)) (d_b (o_d (o_lst a_nil))) (by rfl))))) (s_one (s_ret d_non)) s_nil) (s_cons (s_set (i := 5) sc__law_match.nd rfl (by first | exact Or.inl rfl | exact Or.inr rfl) rfl (d_ix (d_b (o_d (o_lst (a_cons d_int (a_cons d_int (a_cons d_int (a_cons d_int a_nil))))))) (d_b (d_op op_dMod (d_b (d_op op_dDiv (b_var 0 (pv 0)) (d_b d_int))) (d_b d_int))) (fun _ _ => rfl))) (s_cons (s_set (i := 0) sc__law_match.nd rfl (by first | exact Or.inl rfl | exact Or.inr rfl) rfl (d_op op_dDiv (b_var 0 (pv 0)) (d_b d_int))) (s_cons (s_if (t_cmp (op_dEq (hu200 hr)) (d_b (d_op op_dMod (b_var 0 (pv 0)) (d_b d_int))) (d_b d_int) (by rfl)) (s_cons (s_set (i := 6) sc__law_match.nd rfl (by first | exact Or.inl rfl | exact Or.inr rfl) rfl (o_d (o_sortedSet rfl (by rfl) m_sorted (by decide +kernel) (by rfl) m_set (by decide +kernel) (d_b (o_d (o_lc (own := [("_law_k", 7)]) rfl sc__law_match.nd (i_range1 (by rfl) m_range (ab_cons (b_var 5 (pv 5)) ab_nil)) (blkOk_by (own := [("_law_k", 7)]) (N := N__law_match) (sc := defScope s__law_match) (by decide +kernel)) (tg_n rfl) (by decide) rfl (fun _ _ _ _ _ => (pg_name (i := 7) sc__law_match.nd rfl (by first | exact Or.inl rfl | exact Or.inr rfl))) (fun _ _ _ _ _ => ts_nil) (fun _ _ _ _ _ => (d_ix (b_var 4 (pv 4)) (d_b (d_op op_dMod (d_b (d_op op_dAdd (d_b (d_op op_dDiv (b_var 0 (pv 0)) (d_b d_int))) (d_b (d_op op_dMul (b_var 7 (pv 7)) (d_b (d_op op_dAdd (d_b d_int) (d_b (d_op op_dMod (d_b (d_op op_dDiv (b_var 0 (pv 0)) (d_b d_int))) (d_b d_int))))))))) (d_b (d_callB c_len (by rfl) m_len (by decide +kernel) (ab_cons (b_var 4 (pv 4)) ab_nil))))) (fun _ _ => rfl))))))))) (s_one (s_ret (d_tup (a_cons (d_tup (a_cons (d_ix (b_var 2 (pv 2)) (d_b (d_op op_dMod (d_b (d_op op_dDiv (b_var 0 (pv 0)) (d_b d_int))) (d_b (d_callB c_len (by rfl) m_len (by decide +kernel) (ab_cons (b_var 2 (pv 2)) ab_nil))))) (fun _ _ => rfl)) a_nil)) (a_cons (d_callT c_tuple (by rfl) m_tuple (by decide +kernel) (ab_cons (b_var 6 (pv 6)) ab_nil)) a_nil)))))) s_nil) (s_cons (s_set (i := 6) sc__law_match.nd rfl (by first | exact Or.inl rfl | exact Or.inr rfl) rfl (o_d (o_sortedSet rfl (by rfl) m_sorted (by decide +kernel) (by rfl) m_set (by decide +kernel) (d_b (o_d (o_lc (own := [("_law_k", 7)]) rfl sc__law_match.nd (i_range1 (by rfl) m_range (ab_cons (b_var 5 (pv 5)) ab_nil)) (blkOk_by (own := [("_law_k", 7)]) (N := N__law_match) (sc := defScope s__law_match) (by decide +kernel)) (tg_n rfl) (by decide) rfl (fun _ _ _ _ _ => (pg_name (i := 7) sc__law_match.nd rfl (by first | exact Or.inl rfl | exact Or.inr rfl))) (fun _ _ _ _ _ => ts_nil) (fun _ _ _ _ _ => (d_ix (b_var 2 (pv 2)) (d_b (d_op op_dMod (d_b (d_op op_dAdd (d_b (d_op op_dDiv (b_var 0 (pv 0)) (d_b d_int))) (d_b (d_op op_dMul (b_var 7 (pv 7)) (d_b (d_op op_dAdd (d_b d_int) (d_b (d_op op_dMod (d_b (d_op op_dDiv (b_var 0 (pv 0)) (d_b d_int))) (d_b d_int))))))))) (d_b (d_callB c_len (by rfl) m_len (by decide +kernel) (ab_cons (b_var 2 (pv 2)) ab_nil))))) (fun _ _ => rfl))))))))) (s_one (s_ret (d_tup (a_cons (d_callT c_tuple (by rfl) m_tuple (by decide +kernel) (ab_cons (b_var 6 (pv 6)) ab_nil)) (a_cons (d_tup (a_cons (d_ix (b_var 4 (pv 4)) (d_b (d_op op_dMod (d_b (d_op op_dDiv (b_var 0 (pv 0)) (d_b d_int))) (d_b (d_callB c_len (by rfl) m_len (by decide +kernel) (ab_cons (b_var 4 (pv 4)) ab_nil))))) (fun _ _ => rfl)) a_nil)) a_nil))))))))))))⟩)
abbrev s__law_matches : Stmt := top 12
abbrev N__law_matches : List Str := ["_law_script", "_law_group_here", "_law_found", "_law_k", "_law_match_here", "_law_row"]
theorem sc__law_matches : FnScope N__law_matches ["_law_script", "_law_group_here"] (defScope s__law_matches) := ⟨rfl, rfl, rfl, by decide +kernel, rfl, by decide +kernel, by decide +kernel⟩
def B__law_matches : Bs := (seqS (setO 2 (few nilA)) (seqS (forS (fL dRange (exN 1 (consA (f2 dMod (fL S__law_cell_at (consA (vF 0) (consA (cF (.int 2)) nilA))) (cF (.int 9))) nilA))) (tgN 3) (seqS (setS 4 (fL S__law_match (consA (f2 dAdd (fL S__law_cell_at (consA (vF 0) (consA (f2 dAdd (cF (.int 3)) (vF 3)) nilA))) (f2 dMul (cF (.int 97)) (vF 3))) (consA (vF 1) nilA)))) (ifS (asB (f1 dIsNN (vF 4))) (seqS (setS 5 (tupF (consA (f2 dAdd (fL dLen (consA (f2 dIx (vF 4) (cF (.int 0))) nilA)) (fL dLen (consA (f2 dIx (vF 4) (cF (.int 1))) nilA))) (consA (vF 4) nilA)))) (ifS (asB (f2 dNotIn (vF 5) (vF 2))) (appS 2 (vF 5)) nopS)) nopS))) (retS (lstF (lcF (seqA (lstF (fL dSorted (consA (vF 2) nilA)))) [5] (tgN 5) yesT (f2 dIx (vF 5) (cF (.int 1))))))))
def S__law_matches : List PyData → Option PyData := runF 6 2 B__law_matches
theorem kd__law_matches {f : Addr} {fd : FuncData} (h : Here K mg "_law_matches" s__law_matches ["_law_script", "_law_group_here"] f fd) (m_range : mg "range" = none) (m_len : mg "len" = none) (m_sorted : mg "sorted" = none) (c__law_cell_at : Kn P w K mg base "_law_cell_at" 1 ["_law_script", "_law_k"] S__law_cell_at) (c__law_match : Kn P w K mg base "_law_match" 1 ["_law_cell", "_law_group_here"] S__law_match) : Kn P w K mg base "_law_matches" 2 ["_law_script", "_law_group_here"] S__law_matches :=
  kd_of h (fn_d h.fn sc__law_matches rfl rfl (by decide) fun cdv A outer s H E hr => ⟨[(2, .lst)], [], (s_cons (s_setO (i := 2) sc__law_matches.nd rfl (by first | exact Or.inl rfl | exact Or.inr rfl) rfl (O' := [(2, .lst)]) rfl (o_lst a_nil)) (s_cons (s_for PassesOwn.never rfl (i_range1 (by rfl) m_range (ab_cons (d_b (d_op op_dMod (d_b (d_callK c__law_cell_at hr (by decide) pass0 (by rfl) (a_cons (d_var 0 (pv 0)) (a_cons d_int a_nil)))) (d_b d_int))) ab_nil)) (tg_n rfl) (pg_name (i := 3) sc__law_matches.nd rfl (by first | exact Or.inl rfl | exact Or.inr rfl)) (s_cons (s_set (i := 4) sc__law_matches.nd rfl (by first | exact Or.inl rfl | exact Or.inr rfl) rfl (d_callK c__law_match hr (by decide) pass0 (by rfl) (a_cons (d_op op_dAdd (d_b (d_callK c__law_cell_at hr (by decide) pass0 (by rfl) (a_cons (d_var 0 (pv 0)) (a_cons (d_op op_dAdd (d_b d_int) (b_var 3 (pv 3))) a_nil)))) (d_b (d_op op_dMul (d_b d_int) (b_var 3 (pv 3))))) (a_cons (d_var 1 (pv 1)) a_nil)))) (s_one (s_if (t_isNN (d_var 4 (pv 4))) (s_cons (s_set (i := 5) sc__law_matches.nd rfl (by first | exact Or.inl rfl | exact Or.inr rfl) rfl (d_tup (a_cons (d_op op_dAdd (d_b (d_callB c_len (by rfl) m_len (by decide +kernel) (ab_cons (d_b (d_ix (b_var 4 (pv 4)) (d_b d_int) (fun _ _ => rfl))) ab_nil))) (d_b (d_callB c_len (by rfl) m_len (by decide +kernel) (ab_cons (d_b (d_ix (b_var 4 (pv 4)) (d_b d_int) (fun _ _ => rfl))) ab_nil)))) (a_cons (d_var 4 (pv 4)) a_nil)))) (s_one (s_if (t_cmp (op_dNotIn (hu200 hr)) (b_var 5 (pv 5)) (b_var 2 (pv 2)) (by rfl)) (s_one (s_app 2 (by simp) (pe_bm PySem.F.plainAttrs_list PySem.F.slot_list_append PySem.F.type_list_append mt_append (pv 2) (pa_cons (d_var 5 (pv 5)) pa_nil)))) s_nil))) s_nil)))) (s_one (s_ret (o_d (o_lc (own := [("_law_row", 5)]) rfl sc__law_matches.nd (i_seq (o_d (o_callB (c_sorted (hu200 hr)) (by rfl) m_sorted (by decide +kernel) (ab_cons (b_var 2 (pv 2)) ab_nil)))) (blkOk_by (own := [("_law_row", 5)]) (N := N__law_matches) (sc := defScope s__law_matches) (by decide +kernel)) (tg_n rfl) (by decide) rfl (fun _ _ _ _ _ => (pg_name (i := 5) sc__law_matches.nd rfl (by first | exact Or.inl rfl | exact Or.inr rfl))) (fun _ _ _ _ _ => ts_nil) (fun _ _ _ _ _ => (d_ix (b_var 5 (pv 5)) (d_b d_int) (fun _ _ => rfl)))))))))⟩)
abbrev s__law_marks : Stmt := top 13
abbrev N__law_marks : List Str := ["_law_match_here", "_law_place"]
theorem sc__law_marks : FnScope N__law_marks ["_law_match_here"] (defScope s__law_marks) := ⟨rfl, rfl, rfl, by decide +kernel, rfl, by decide +kernel, by decide +kernel⟩
def B__law_marks : Bs := (retS (f2 dAdd (lstF (lcF (seqA (f2 dIx (vF 0) (cF (.int 0)))) [1] (tgN 1) yesT (tupF (consA (cF (.str "bank")) (consA (vF 1) nilA))))) (lstF (lcF (seqA (f2 dIx (vF 0) (cF (.int 1)))) [1] (tgN 1) yesT (tupF (consA (cF (.str "book")) (consA (vF 1) nilA)))))))
def S__law_marks : List PyData → Option PyData := runF 2 1 B__law_marks
theorem kd__law_marks {f : Addr} {fd : FuncData} (h : Here K mg "_law_marks" s__law_marks ["_law_match_here"] f fd)   : Kn P w K mg base "_law_marks" 1 ["_law_match_here"] S__law_marks :=
  kd_of h (fn_d h.fn sc__law_marks rfl rfl (by decide) fun cdv A outer s H E hr => ⟨[], [], (s_one (s_ret (d_op op_dAdd (d_b (o_d (o_lc (own := [("_law_place", 1)]) rfl sc__law_marks.nd (i_seq (d_ix (b_var 0 (pv 0)) (d_b d_int) (fun _ _ => rfl))) (blkOk_by (own := [("_law_place", 1)]) (N := N__law_marks) (sc := defScope s__law_marks) (by decide +kernel)) (tg_n rfl) (by decide) rfl (fun _ _ _ _ _ => (pg_name (i := 1) sc__law_marks.nd rfl (by first | exact Or.inl rfl | exact Or.inr rfl))) (fun _ _ _ _ _ => ts_nil) (fun _ _ _ _ _ => (d_tup (a_cons d_str (a_cons (d_var 1 (pv 1)) a_nil))))))) (d_b (o_d (o_lc (own := [("_law_place", 1)]) rfl sc__law_marks.nd (i_seq (d_ix (b_var 0 (pv 0)) (d_b d_int) (fun _ _ => rfl))) (blkOk_by (own := [("_law_place", 1)]) (N := N__law_marks) (sc := defScope s__law_marks) (by decide +kernel)) (tg_n rfl) (by decide) rfl (fun _ _ _ _ _ => (pg_name (i := 1) sc__law_marks.nd rfl (by first | exact Or.inl rfl | exact Or.inr rfl))) (fun _ _ _ _ _ => ts_nil) (fun _ _ _ _ _ => (d_tup (a_cons d_str (a_cons (d_var 1 (pv 1)) a_nil))))))))))⟩)
abbrev s__law_most : Stmt := top 14
abbrev N__law_most : List Str := ["_law_rest", "_law_matches_here", "_law_best", "_law_k", "_law_match_here", "_law_marks_here", "_law_less", "_law_mark"]
theorem sc__law_most : FnScope N__law_most ["_law_rest", "_law_matches_here"] (defScope s__law_most) := ⟨rfl, rfl, rfl, by decide +kernel, rfl, by decide +kernel, by decide +kernel⟩
def B__law_most (self : List PyData → Option PyData) : Bs := (seqS (setS 2 (cF (.int 0))) (seqS (forS (enF (vF 1)) (tgP 3 4) (seqS (setS 5 (fL S__law_marks (consA (vF 4) nilA))) (ifS (asB (f2 dEq (lstF (lcF (seqA (vF 5)) [7] (tgN 7) (asB (f2 dNotIn (vF 7) (vF 0))) (vF 7))) (lstF (few nilA)))) (seqS (setS 6 (lstF (lcF (seqA (vF 0)) [7] (tgN 7) (asB (f2 dNotIn (vF 7) (vF 5))) (vF 7)))) (setS 2 (fL dMax (consA (vF 2) (consA (f2 dAdd (fL dLen (consA (vF 5) nilA)) (fL self (consA (vF 6) (consA (slF dSl (vF 1) (someP (f2 dAdd (vF 3) (cF (.int 1)))) noP) nilA)))) nilA))))) nopS))) (retS (vF 2))))
def S__law_most : Nat → List PyData → Option PyData
  | 0 => fun _ => none
  | n + 1 => runF 8 2 (B__law_most (S__law_most n))
theorem kr__law_most {f : Addr} {fd : FuncData} (h : Here K mg "_law_most" s__law_most ["_law_rest", "_law_matches_here"] f fd) (m_enumerate : mg "enumerate" = none) (m_max : mg "max" = none) (m_len : mg "len" = none) (c__law_marks : Kn P w K mg base "_law_marks" 1 ["_law_match_here"] S__law_marks) : ∀ n, Kn P w K mg base "_law_most" (1 + n) ["_law_rest", "_law_matches_here"] (S__law_most n)
  | 0 => Kn.zero h
  | n + 1 => by
    have c__law_most := kr__law_most h m_enumerate m_max m_len c__law_marks n
    exact kd_of h (fn_d (k := 1 + n) h.fn sc__law_most rfl rfl (by decide) fun cdv A outer s H E hr => ⟨[], [], (s_cons (s_set (i := 2) sc__law_most.nd rfl (by first | exact Or.inl rfl | exact Or.inr rfl) rfl d_int) (s_cons (s_for PassesOwn.never rfl (i_enum (by rfl) m_enumerate (d_var 1 (pv 1))) (tg_p rfl rfl) (pg_tup rfl (pgs_cons (pg_name (i := 3) sc__law_most.nd rfl (by first | exact Or.inl rfl | exact Or.inr rfl)) (pgs_cons (pg_name (i := 4) sc__law_most.nd rfl (by first | exact Or.inl rfl | exact Or.inr rfl)) pgs_nil))) (s_cons (s_set (i := 5) sc__law_most.nd rfl (by first | exact Or.inl rfl | exact Or.inr rfl) rfl (d_callK c__law_marks hr (by omega) pass0 (by rfl) (a_cons (d_var 4 (pv 4)) a_nil))) (s_one (s_if (t_cmp (op_dEq (hu200 hr)) (d_b (o_d (o_lc (own := [("_law_mark", 7)]) rfl sc__law_most.nd (i_seq (d_var 5 (pv 5))) (blkOk_by (own := [("_law_mark", 7)]) (N := N__law_most) (sc := defScope s__law_most) (by decide +kernel)) (tg_n rfl) (by decide) rfl (fun _ _ _ _ _ => (pg_name (i := 7) sc__law_most.nd rfl (by first | exact Or.inl rfl | exact Or.inr rfl))) (fun _ _ _ _ _ => (ts_one (t_cmp (op_dNotIn (hu200 hr)) (b_var 7 (pv 7)) (b_var 0 (pv 0)) (by rfl)))) (fun _ _ _ _ _ => (d_var 7 (pv 7)))))) (d_b (o_d (o_lst a_nil))) (by rfl)) (s_cons (s_setLc (i := 6) (own := [("_law_mark", 7)]) rfl sc__law_most.nd rfl rfl rfl (sw_true rfl rfl rfl (by decide +kernel)) (i_seq (d_var 0 (pv 0))) (blkOk_by (own := [("_law_mark", 7)]) (N := N__law_most) (sc := defScope s__law_most) (by decide +kernel)) (tg_n rfl) (by decide) rfl (fun _ _ _ _ _ => (pg_name (i := 7) sc__law_most.nd rfl (by first | exact Or.inl rfl | exact Or.inr rfl))) (fun _ _ _ _ _ => (ts_one (t_cmp (op_dNotIn (hu200 hr)) (b_var 7 (pv 7)) (b_var 5 (pv 5)) (by rfl)))) (fun _ _ _ _ _ => (d_var 7 (pv 7)))) (s_one (s_set (i := 2) sc__law_most.nd rfl (by first | exact Or.inl rfl | exact Or.inr rfl) rfl (d_callB (c_max rfl) (by rfl) m_max (by decide +kernel) (ab_cons (b_var 2 (pv 2)) (ab_cons (d_b (d_op op_dAdd (d_b (d_callB c_len (by rfl) m_len (by decide +kernel) (ab_cons (b_var 5 (pv 5)) ab_nil))) (d_b (d_callK c__law_most hr (by omega) pass0 (by rfl) (a_cons (d_var 6 (pv 6)) (a_cons (d_sl (b_var 1 (pv 1)) (p_some (d_b (d_op op_dAdd (b_var 3 (pv 3)) (d_b d_int)))) p_none) a_nil)))))) ab_nil)))))) s_nil)))) (s_one (s_ret (d_var 2 (pv 2))))))⟩)
theorem kd__law_most {f : Addr} {fd : FuncData} (h : Here K mg "_law_most" s__law_most ["_law_rest", "_law_matches_here"] f fd) (m_enumerate : mg "enumerate" = none) (m_max : mg "max" = none) (m_len : mg "len" = none) (c__law_marks : Kn P w K mg base "_law_marks" 1 ["_law_match_here"] S__law_marks) : Kn P w K mg base "_law_most" 13 ["_law_rest", "_law_matches_here"] (S__law_most 12) := kr__law_most h m_enumerate m_max m_len c__law_marks 12
abbrev s__law_first : Stmt := top 15
abbrev N__law_first : List Str := ["_law_rest", "_law_matches_here", "_law_least", "_law_match_here", "_law_marks_here", "_law_less", "_law_mark"]
theorem sc__law_first : FnScope N__law_first ["_law_rest", "_law_matches_here"] (defScope s__law_first) := ⟨rfl, rfl, rfl, by decide +kernel, rfl, by decide +kernel, by decide +kernel⟩
def B__law_first : Bs := (seqS (setS 2 (f2 dSub (fL dLen (consA (vF 0) nilA)) (fL (S__law_most 12) (consA (vF 0) (consA (vF 1) nilA))))) (seqS (forS (seqA (vF 1)) (tgN 3) (seqS (setS 4 (fL S__law_marks (consA (vF 3) nilA))) (seqS (setS 5 (lstF (lcF (seqA (vF 0)) [6] (tgN 6) (asB (f2 dNotIn (vF 6) (vF 4))) (vF 6)))) (ifS (andT (asB (f2 dIn (f2 dIx (vF 0) (cF (.int 0))) (vF 4))) (asB (f2 dEq (f2 dAdd (fL dLen (consA (vF 5) nilA)) (fL dLen (consA (vF 4) nilA))) (fL dLen (consA (vF 0) nilA))))) (ifS (asB (f2 dEq (f2 dSub (fL dLen (consA (vF 5) nilA)) (fL (S__law_most 12) (consA (vF 5) (consA (vF 1) nilA)))) (vF 2))) (retS (vF 3)) nopS) nopS)))) (retS (cF .none))))
def S__law_first : List PyData → Option PyData := runF 7 2 B__law_first
theorem kd__law_first {f : Addr} {fd : FuncData} (h : Here K mg "_law_first" s__law_first ["_law_rest", "_law_matches_here"] f fd) (m_len : mg "len" = none) (c__law_most : Kn P w K mg base "_law_most" 13 ["_law_rest", "_law_matches_here"] (S__law_most 12)) (c__law_marks : Kn P w K mg base "_law_marks" 1 ["_law_match_here"] S__law_marks) : Kn P w K mg base "_law_first" 14 ["_law_rest", "_law_matches_here"] S__law_first :=
  kd_of h (fn_d h.fn sc__law_first rfl rfl (by decide) fun cdv A outer s H E hr => ⟨[], [], (s_cons (s_set (i := 2) sc__law_first.nd rfl (by first | exact Or.inl rfl | exact Or.inr rfl) rfl (d_op op_dSub (d_b (d_callB c_len (by rfl) m_len (by decide +kernel) (ab_cons (b_var 0 (pv 0)) ab_nil))) (d_b (d_callK c__law_most hr (by decide) pass0 (by rfl) (a_cons (d_var 0 (pv 0)) (a_cons (d_var 1 (pv 1)) a_nil)))))) (s_cons (s_for PassesOwn.never rfl (i_seq (d_var 1 (pv 1))) (tg_n rfl) (pg_name (i := 3) sc__law_first.nd rfl (by first | exact Or.inl rfl | exact Or.inr rfl)) (s_cons (s_set (i := 4) sc__law_first.nd rfl (by first | exact Or.inl rfl | exact Or.inr rfl) rfl (d_callK c__law_marks hr (by decide) pass0 (by rfl) (a_cons (d_var 3 (pv 3)) a_nil))) (s_cons (s_setLc (i := 5) (own := [("_law_mark", 6)]) rfl sc__law_first.nd rfl rfl rfl (sw_true rfl rfl rfl (by decide +kernel)) (i_seq (d_var 0 (pv 0))) (blkOk_by (own := [("_law_mark", 6)]) (N := N__law_first) (sc := defScope s__law_first) (by decide +kernel)) (tg_n rfl) (by decide) rfl (fun _ _ _ _ _ => (pg_name (i := 6) sc__law_first.nd rfl (by first | exact Or.inl rfl | exact Or.inr rfl))) (fun _ _ _ _ _ => (ts_one (t_cmp (op_dNotIn (hu200 hr)) (b_var 6 (pv 6)) (b_var 4 (pv 4)) (by rfl)))) (fun _ _ _ _ _ => (d_var 6 (pv 6)))) (s_one (s_if (t_w (w_and (t_cmp (op_dIn (hu200 hr)) (d_b (d_ix (b_var 0 (pv 0)) (d_b d_int) (fun _ _ => rfl))) (b_var 4 (pv 4)) (by rfl)) (w_and1 (t_cmp (op_dEq (hu200 hr)) (d_b (d_op op_dAdd (d_b (d_callB c_len (by rfl) m_len (by decide +kernel) (ab_cons (b_var 5 (pv 5)) ab_nil))) (d_b (d_callB c_len (by rfl) m_len (by decide +kernel) (ab_cons (b_var 4 (pv 4)) ab_nil))))) (d_b (d_callB c_len (by rfl) m_len (by decide +kernel) (ab_cons (b_var 0 (pv 0)) ab_nil))) (by rfl))))) (s_one (s_if (t_cmp (op_dEq (hu200 hr)) (d_b (d_op op_dSub (d_b (d_callB c_len (by rfl) m_len (by decide +kernel) (ab_cons (b_var 5 (pv 5)) ab_nil))) (d_b (d_callK c__law_most hr (by decide) pass0 (by rfl) (a_cons (d_var 5 (pv 5)) (a_cons (d_var 1 (pv 1)) a_nil)))))) (b_var 2 (pv 2)) (by rfl)) (s_one (s_ret (d_var 3 (pv 3)))) s_nil)) s_nil))))) (s_one (s_ret d_non))))⟩)
abbrev s_law : Stmt := top 16
abbrev N_law : List Str := ["_law_script", "_law_group_here", "_law_matches_here", "_law_one", "_law_other", "_law_found", "_law_taken", "_law_match_here", "_law_rest", "_law_at", "_law_mark"]
theorem sc_law : FnScope N_law ["_law_script"] (defScope s_law) := ⟨rfl, rfl, rfl, by decide +kernel, rfl, by decide +kernel, by decide +kernel⟩
def T_law_12 : Bs := (retS (f2 dEq (vF 9) (fL dLen (consA (vF 5) nilA))))
def T_law_11 : Bs := (seqS (whGo (asB (f2 dNe (vF 8) (lstF (few nilA)))) (seqS (setS 7 (fL S__law_first (consA (vF 8) (consA (vF 2) nilA)))) (ifS (asB (f1 dIsN (vF 7))) (setS 8 (slF dSl (vF 8) (someP (cF (.int 1))) noP)) (seqS (ifS (orT (asB (f2 dEq (vF 9) (fL dLen (consA (vF 5) nilA)))) (asB (f2 dNe (f2 dIx (vF 5) (vF 9)) (vF 7)))) (retS (cF (.bool false))) nopS) (seqS (setS 8 (lstF (lcF (seqA (vF 8)) [10] (tgN 10) (asB (f2 dNotIn (vF 10) (fL S__law_marks (consA (vF 7) nilA)))) (vF 10)))) (setS 9 (f2 dAdd (vF 9) (cF (.int 1)))))))) 100000) T_law_12)
def T_law_10 : Bs := (seqS (setS 9 (cF (.int 0))) T_law_11)
def T_law_9 : Bs := (seqS (setS 8 (lstF (fL dList (consA (vF 1) nilA)))) T_law_10)
def T_law_8 : Bs := (seqS (ifS (orT (asB (f2 dNe (f1 dLenSet (vF 6)) (fL dLen (consA (vF 6) nilA)))) (asB (f2 dNe (fL dLen (consA (vF 6) nilA)) (fL (S__law_most 12) (consA (vF 1) (consA (vF 2) nilA)))))) (retS (cF (.bool false))) nopS) T_law_9)
def T_law_7 : Bs := (seqS (forS (seqA (vF 5)) (tgN 7) (seqS (ifS (orT (asB (f2 dNotIn (vF 7) (vF 2))) (notT (asB (f1 (dIsi PyData.isTuple) (vF 7))))) (retS (cF (.bool false))) nopS) (setS 6 (f2 dAdd (vF 6) (fL S__law_marks (consA (vF 7) nilA)))))) T_law_8)
def T_law_6 : Bs := (seqS (setS 6 (lstF (few nilA))) T_law_7)
def T_law_5 : Bs := (seqS (ifS (orT (notT (asB (f1 (dIsi PyData.isList) (vF 5)))) (orT (asB (f2 dNe (vF 3) (vF 1))) (asB (f2 dNe (vF 4) (vF 2))))) (retS (cF (.bool false))) nopS) T_law_6)
def T_law_4 : Bs := (seqS (setS 5 (fL S_picked (consA (vF 3) (consA (vF 4) nilA)))) T_law_5)
def T_law_3 : Bs := (seqS (setS 4 (lstF (fL dList (consA (vF 2) nilA)))) T_law_4)
def T_law_2 : Bs := (seqS (setS 3 (lstF (fL dList (consA (vF 1) nilA)))) T_law_3)
def T_law_1 : Bs := (seqS (setS 2 (fL S__law_matches (consA (vF 0) (consA (vF 1) nilA)))) T_law_2)
def B_law : Bs := (seqS (setS 1 (fL S__law_group (consA (vF 0) nilA))) T_law_1)
def S_law : List PyData → Option PyData := runF 11 1 B_law
theorem ok_law {f : Addr} {fd : FuncData} (h : Here K mg "law" s_law ["_law_script"] f fd) (m_list : mg "list" = none) (m_isinstance : mg "isinstance" = none) (m_tuple : mg "tuple" = none) (m_len : mg "len" = none) (m_set : mg "set" = none) (c__law_group : Kn P w K mg base "_law_group" 2 ["_law_script"] S__law_group) (c__law_matches : Kn P w K mg base "_law_matches" 2 ["_law_script", "_law_group_here"] S__law_matches) (c_picked : Kn P w K mg base "picked" 16 ["group", "matches"] S_picked) (c__law_marks : Kn P w K mg base "_law_marks" 1 ["_law_match_here"] S__law_marks) (c__law_most : Kn P w K mg base "_law_most" 13 ["_law_rest", "_law_matches_here"] (S__law_most 12)) (c__law_first : Kn P w K mg base "_law_first" 14 ["_law_rest", "_law_matches_here"] S__law_first) : FnOk P w K mg base CX0 17 f fd ["_law_script"] (spD K S_law) :=
  fn_d h.fn sc_law rfl rfl (by decide) fun cdv A outer s H E hr => ⟨[], [], (s_cons (s_set (i := 1) sc_law.nd rfl (by first | exact Or.inl rfl | exact Or.inr rfl) rfl (d_callK c__law_group hr (by decide) pass0 (by rfl) (a_cons (d_var 0 (pv 0)) a_nil))) (s_cons (s_set (i := 2) sc_law.nd rfl (by first | exact Or.inl rfl | exact Or.inr rfl) rfl (d_callK c__law_matches hr (by decide) pass0 (by rfl) (a_cons (d_var 0 (pv 0)) (a_cons (d_var 1 (pv 1)) a_nil)))) (s_cons (s_set (i := 3) sc_law.nd rfl (by first | exact Or.inl rfl | exact Or.inr rfl) rfl (o_d (o_callT c_list (by rfl) m_list (by decide +kernel) (ab_cons (b_var 1 (pv 1)) ab_nil)))) (s_cons (s_set (i := 4) sc_law.nd rfl (by first | exact Or.inl rfl | exact Or.inr rfl) rfl (o_d (o_callT c_list (by rfl) m_list (by decide +kernel) (ab_cons (b_var 2 (pv 2)) ab_nil)))) (s_cons (s_set (i := 5) sc_law.nd rfl (by first | exact Or.inl rfl | exact Or.inr rfl) rfl (d_callK c_picked hr (by decide) pass0 (by rfl) (a_cons (d_var 3 (pv 3)) (a_cons (d_var 4 (pv 4)) a_nil)))) (s_cons (s_if (t_w (w_or (t_not (t_val (d_isi isi_list (by rfl) m_isinstance (by rfl) m_list (by decide +kernel) (b_var 5 (pv 5))))) (w_or (t_cmp (op_dNe (hu200 hr)) (b_var 3 (pv 3)) (b_var 1 (pv 1)) (by rfl)) (w_or1 (t_cmp (op_dNe (hu200 hr)) (b_var 4 (pv 4)) (b_var 2 (pv 2)) (by rfl)))))) (s_one (s_ret d_bl)) s_nil) (s_cons (s_set (i := 6) sc_law.nd rfl (by first | exact Or.inl rfl | exact Or.inr rfl) rfl (o_d (o_lst a_nil))) (s_cons (s_for PassesOwn.never rfl (i_seq (d_var 5 (pv 5))) (tg_n rfl) (pg_name (i := 7) sc_law.nd rfl (by first | exact Or.inl rfl | exact Or.inr rfl)) (s_cons (s_if (t_w (w_or (t_cmp (op_dNotIn (hu200 hr)) (b_var 7 (pv 7)) (b_var 2 (pv 2)) (by rfl)) (w_or1 (t_not (t_val (d_isi isi_tuple (by rfl) m_isinstance (by rfl) m_tuple (by decide +kernel) (b_var 7 (pv 7)))))))) (s_one (s_ret d_bl)) s_nil) (s_one (s_set (i := 6) sc_law.nd rfl (by first | exact Or.inl rfl | exact Or.inr rfl) rfl (d_op op_dAdd (b_var 6 (pv 6)) (d_b (d_callK c__law_marks hr (by decide) pass0 (by rfl) (a_cons (d_var 7 (pv 7)) a_nil)))))))) (s_cons (s_if (t_w (w_or (t_cmp (op_dNe (hu200 hr)) (d_b (d_lenSet rfl (hu200 hr) (by rfl) m_len (by decide +kernel) (by rfl) m_set (by decide +kernel) (b_var 6 (pv 6)))) (d_b (d_callB c_len (by rfl) m_len (by decide +kernel) (ab_cons (b_var 6 (pv 6)) ab_nil))) (by rfl)) (w_or1 (t_cmp (op_dNe (hu200 hr)) (d_b (d_callB c_len (by rfl) m_len (by decide +kernel) (ab_cons (b_var 6 (pv 6)) ab_nil))) (d_b (d_callK c__law_most hr (by decide) pass0 (by rfl) (a_cons (d_var 1 (pv 1)) (a_cons (d_var 2 (pv 2)) a_nil)))) (by rfl))))) (s_one (s_ret d_bl)) s_nil) (s_cons (s_set (i := 8) sc_law.nd rfl (by first | exact Or.inl rfl | exact Or.inr rfl) rfl (o_d (o_callT c_list (by rfl) m_list (by decide +kernel) (ab_cons (b_var 1 (pv 1)) ab_nil)))) (s_cons (s_set (i := 9) sc_law.nd rfl (by first | exact Or.inl rfl | exact Or.inr rfl) rfl d_int) (s_cons (s_while 100000 PassesOwn.never (t_cmp (op_dNe (hu200 hr)) (b_var 8 (pv 8)) (d_b (o_d (o_lst a_nil))) (by rfl)) (s_cons (s_set (i := 7) sc_law.nd rfl (by first | exact Or.inl rfl | exact Or.inr rfl) rfl (d_callK c__law_first hr (by decide) pass0 (by rfl) (a_cons (d_var 8 (pv 8)) (a_cons (d_var 2 (pv 2)) a_nil)))) (s_one (s_if (t_isN (d_var 7 (pv 7))) (s_one (s_set (i := 8) sc_law.nd rfl (by first | exact Or.inl rfl | exact Or.inr rfl) rfl (d_sl (b_var 8 (pv 8)) (p_some (d_b d_int)) p_none))) (s_cons (s_if (t_w (w_or (t_cmp (op_dEq (hu200 hr)) (b_var 9 (pv 9)) (d_b (d_callB c_len (by rfl) m_len (by decide +kernel) (ab_cons (b_var 5 (pv 5)) ab_nil))) (by rfl)) (w_or1 (t_cmp (op_dNe (hu200 hr)) (d_b (d_ix (b_var 5 (pv 5)) (b_var 9 (pv 9)) (fun _ _ => rfl))) (b_var 7 (pv 7)) (by rfl))))) (s_one (s_ret d_bl)) s_nil) (s_cons (s_setLc (i := 8) (own := [("_law_mark", 10)]) rfl sc_law.nd rfl rfl rfl (sw_true rfl rfl rfl (by decide +kernel)) (i_seq (d_var 8 (pv 8))) (blkOk_by (own := [("_law_mark", 10)]) (N := N_law) (sc := defScope s_law) (by decide +kernel)) (tg_n rfl) (by decide) rfl (fun _ _ _ _ _ => (pg_name (i := 10) sc_law.nd rfl (by first | exact Or.inl rfl | exact Or.inr rfl))) (fun _ _ _ _ _ => (ts_one (t_cmp (op_dNotIn (hu200 hr)) (b_var 10 (pv 10)) (d_b (d_callK c__law_marks hr (by decide) pass0 (by rfl) (a_cons (d_var 7 (pv 7)) a_nil))) (by rfl)))) (fun _ _ _ _ _ => (d_var 10 (pv 10)))) (s_one (s_set (i := 9) sc_law.nd rfl (by first | exact Or.inl rfl | exact Or.inr rfl) rfl (d_op op_dAdd (b_var 9 (pv 9)) (d_b d_int)))))))))) (s_one (s_ret (d_cmp (op_dEq (hu200 hr)) (b_var 9 (pv 9)) (d_b (d_callB c_len (by rfl) m_len (by decide +kernel) (ab_cons (b_var 5 (pv 5)) ab_nil))) (by rfl))))))))))))))))⟩
end
end Dat
open PySem PySem.Spec PyProof.Rows L2
namespace Dat
/-! ### lists of whole numbers -/
abbrev eI (xs : List Int) : List PyData := xs.map PyData.int
theorem intsD_map (xs : List Int) : intsD (eI xs) = some xs := by
  induction xs with
  | nil => rfl
  | cons x xs ih => simp only [eI, List.map_cons, intsD] at ih ⊢; rw [ih]; rfl
theorem sum_ints (xs : List Int) : dSum [.list (eI xs)] = some (.int xs.sum) := by unfold dSum; simp only [intsD_map]; rfl
theorem max_ints {xs : List Int} (h : xs ≠ []) : dMax [.list (eI xs)] = some (.int (xs.max?.getD 0)) := by
  unfold dMax
  simp only [intsD_map, Option.bind_some]
  cases e : xs.max? with
  | none => exact absurd (List.max?_eq_none_iff.mp e) h
  | some m => rfl
theorem min_ints {xs : List Int} (h : xs ≠ []) : dMin [.list (eI xs)] = some (.int (xs.min?.getD 0)) := by
  unfold dMin
  simp only [intsD_map, Option.bind_some]
  cases e : xs.min? with
  | none => exact absurd (List.min?_eq_none_iff.mp e) h
  | some m => rfl
theorem all_ints : ∀ {ds : List PyData}, (∀ d, d ∈ ds → ∃ i, d = .int i) → ∃ xs, ds = eI xs
  | [], _ => ⟨[], rfl⟩
  | d :: ds, h => by
    obtain ⟨i, rfl⟩ := h d (by simp)
    obtain ⟨xs, rfl⟩ := all_ints (ds := ds) fun d hd => h d (by simp [hd])
    exact ⟨i :: xs, rfl⟩
theorem sort_ints (xs : List Int) : ∃ ys, dSorted [.list (eI xs)] = some (eI ys) ∧ ys.length = xs.length := by
  have hok : sortOk (eI xs) = true := by
    unfold sortOk
    simp only [Bool.and_eq_true, Bool.or_eq_true, List.all_eq_true, List.mem_map]
    refine ⟨⟨?_, .inr ?_⟩, ?_⟩
    · rintro x ⟨a, _, rfl⟩ y ⟨b, _, rfl⟩; rfl
    · rintro x ⟨a, _, rfl⟩; rfl
    · rintro x ⟨a, _, rfl⟩; rfl
  unfold dSorted
  simp only [hok, if_true]
  have hp := List.mergeSort_perm (eI xs) (PySem.W.dataLe false id)
  obtain ⟨ys, hy⟩ := all_ints (ds := (eI xs).mergeSort (PySem.W.dataLe false id)) fun d hd => by
    obtain ⟨i, _, rfl⟩ := List.mem_map.mp (hp.mem_iff.mp hd)
    exact ⟨i, rfl⟩
  refine ⟨ys, by rw [hy], ?_⟩
  have := hp.length_eq
  rw [hy] at this
  simpa using this
theorem upFrom_succ (lo : Int) (n : Nat) : upFrom lo (n + 1) = .int lo :: upFrom (lo + 1) n := by
  unfold upFrom
  rw [List.range_succ_eq_map, List.map_cons, List.map_map]
  simp only [Int.natCast_zero, Int.add_zero, List.cons.injEq, true_and]
  apply List.map_congr_left
  intro k _
  simp only [Function.comp_apply, PyData.int.injEq, Nat.succ_eq_add_one]
  omega
theorem upFrom_zero (lo : Int) : upFrom lo 0 = [] := rfl
abbrev eP (ones others : List Int) : PyData := .tuple [.tuple (eI ones), .tuple (eI others)]
/-! ### marks -/
def markD (p : Str × Int) : PyData := .tuple [.str p.1, .int p.2]
def marksI (ones others : List Int) : List (Str × Int) := ones.map (fun p => (("bank" : Str), p)) ++ others.map (fun p => (("book" : Str), p))
theorem lc_mk {ps : List Int} {i : Nat} {ρ : Dv} (t : Str) (hi : i < ρ.length) : lcGo (tgN i) yesT (tupF (consA (cF (.str t)) (consA (vF i) nilA))) ρ (eI ps) = some ((ps.map fun p => (t, p)).map markD) := by
  rw [lc_map PyData.int (fun p => markD (t, p)) ps fun p hp => by simp [hi, markD]]
  simp
theorem marks_of_eq {ones others : List Int} (h1 : ones.length ≤ 1000) (h2 : others.length ≤ 1000) : S_marks_of [eP ones others] = some (.list ((marksI ones others).map markD)) := by
  unfold S_marks_of B_marks_of
  have hl : ones.length + others.length ≤ 16777216 := by omega
  simp [lc_mk, marksI, hl]
theorem eqv_markD (a b : Str × Int) : PyData.eqv (markD a) (markD b) = decide (a = b) := by
  obtain ⟨a1, a2⟩ := a
  obtain ⟨b1, b2⟩ := b
  simp only [markD, PyData.eqv, PyData.eqvAll, Bool.and_true]
  rw [Bool.eq_iff_iff]
  simp
theorem depth_markD (m : Str × Int) : (markD m).depth = 1 := by simp [markD, PyData.depth, PyData.depthAll]
/-! ### an order from a strict one -/
structure SLt {α : Type} (lt : α → α → Bool) : Prop where
  irr : ∀ a, lt a a = false
  tr : ∀ a b c, lt a b = true → lt b c = true → lt a c = true
  tri : ∀ a b, lt a b = true ∨ a = b ∨ lt b a = true
def leOf {α : Type} (lt : α → α → Bool) (a b : α) : Bool := !lt b a
theorem SLt.asym {α : Type} {lt : α → α → Bool} (h : SLt lt) {a b : α} (x : lt a b = true) : lt b a = false := by
  cases e : lt b a with
  | false => rfl
  | true => have := h.tr _ _ _ x e; rw [h.irr] at this; cases this
theorem SLt.trans {α : Type} {lt : α → α → Bool} (h : SLt lt) {a b c : α} (x : leOf lt a b = true) (y : leOf lt b c = true) : leOf lt a c = true := by
  unfold leOf at *
  simp only [Bool.not_eq_true'] at *
  cases e : lt c a with
  | false => rfl
  | true =>
    rcases h.tri a b with z | z | z
    · rw [h.tr _ _ _ e z] at y; cases y
    · subst z; rw [e] at y; cases y
    · rw [z] at x; cases x
theorem SLt.total {α : Type} {lt : α → α → Bool} (h : SLt lt) (a b : α) : (leOf lt a b || leOf lt b a) = true := by
  unfold leOf
  cases e : lt b a with
  | false => rfl
  | true => rw [h.asym e]; rfl
theorem SLt.anti {α : Type} {lt : α → α → Bool} (h : SLt lt) {a b : α} (x : leOf lt a b = true) (y : leOf lt b a = true) : a = b := by
  unfold leOf at *
  simp only [Bool.not_eq_true'] at *
  rcases h.tri a b with z | z | z
  · rw [z] at y; cases y
  · exact z
  · rw [z] at x; cases x
theorem SLt.sort_eq {α : Type} {lt : α → α → Bool} (h : SLt lt) {xs ys : List α} (p : xs.Perm ys) : xs.mergeSort (leOf lt) = ys.mergeSort (leOf lt) := by
  have s1 := List.pairwise_mergeSort (le := leOf lt) (fun _ _ _ => h.trans) h.total xs
  have s2 := List.pairwise_mergeSort (le := leOf lt) (fun _ _ _ => h.trans) h.total ys
  have pp : (xs.mergeSort (leOf lt)).Perm (ys.mergeSort (leOf lt)) := ((List.mergeSort_perm _ _).trans p).trans (List.mergeSort_perm _ _).symm
  exact pp.eq_of_pairwise (fun a b _ _ => h.anti) s1 s2
/-! ### rows of whole numbers, in order -/
def ltI : List Int → List Int → Bool
  | [], [] => false
  | [], _ :: _ => true
  | _ :: _, [] => false
  | x :: xs, y :: ys => if x = y then ltI xs ys else decide (x < y)
theorem lt_ints : ∀ xs ys : List Int, ltAll (eI xs) (eI ys) = ltI xs ys
  | [], [] => ltAll_nil
  | [], _ :: _ => ltAll_nilC
  | _ :: _, [] => ltAll_consN
  | x :: xs, y :: ys => by
    have ih := lt_ints xs ys
    simp only [eI, List.map_cons] at ih ⊢
    rw [ltAll_cons rfl, ih, PySem.W.dataLt_int]
    simp only [PyData.eqv, ltI, beq_iff_eq]
theorem ltI_s : SLt ltI := by
  refine ⟨fun a => ?_, fun a b c => ?_, fun a b => ?_⟩
  · induction a with
    | nil => rfl
    | cons x xs ih => simp [ltI, ih]
  · induction a generalizing b c with
    | nil => cases b <;> cases c <;> simp [ltI]
    | cons x xs ih =>
      cases b with
      | nil => simp [ltI]
      | cons y ys =>
        cases c with
        | nil => simp [ltI]
        | cons z zs =>
          simp only [ltI]
          by_cases h1 : x = y
          · subst h1
            by_cases h2 : x = z
            · subst h2; simpa using ih ys zs
            · simp [h2]
          · by_cases h2 : y = z
            · subst h2; simp [h1]; exact fun p _ => p
            · by_cases h3 : x = z
              · subst h3; simp [h1, h2]; omega
              · simp [h1, h2, h3]; omega
  · induction a generalizing b with
    | nil => cases b <;> simp [ltI]
    | cons x xs ih =>
      cases b with
      | nil => simp [ltI]
      | cons y ys =>
        simp only [ltI]
        by_cases h1 : x = y
        · subst h1
          rcases ih ys with z | z | z <;> simp [z]
        · have h2 : ¬ y = x := fun z => h1 z.symm
          simp [h1, h2]; omega
theorem eqv_tupI (xs ys : List Int) : PyData.eqv (.tuple (eI xs)) (.tuple (eI ys)) = decide (xs = ys) := by
  simp only [PyData.eqv]
  exact eqvAll_map (enc := PyData.int) (fun a b => by simp only [PyData.eqv, Bool.beq_eq_decide_eq]) xs ys
/-! ### matches -/
abbrev Mt := List Int × List Int
def eMt (m : Mt) : PyData := eP m.1 m.2
def nMt (m : Mt) : Int := m.1.length + m.2.length
def mtLt (a b : Mt) : Bool := if nMt a = nMt b then (if a.1 = b.1 then ltI a.2 b.2 else ltI a.1 b.1) else decide (nMt a < nMt b)
theorem mtLt_s : SLt mtLt := by
  refine ⟨fun a => ?_, fun a b c => ?_, fun a b => ?_⟩
  · simp [mtLt, ltI_s.irr]
  · obtain ⟨a1, a2⟩ := a
    obtain ⟨b1, b2⟩ := b
    obtain ⟨c1, c2⟩ := c
    simp only [mtLt]
    generalize nMt (a1, a2) = x
    generalize nMt (b1, b2) = y
    generalize nMt (c1, c2) = z
    by_cases h1 : x = y
    · subst h1
      by_cases h2 : x = z
      · subst h2
        simp only [if_true]
        by_cases h3 : a1 = b1
        · subst h3
          by_cases h4 : a1 = c1
          · subst h4; simpa using ltI_s.tr a2 b2 c2
          · simp [h4]
        · by_cases h4 : b1 = c1
          · subst h4; simp [h3]; exact fun p _ => p
          · by_cases h5 : a1 = c1
            · subst h5
              simp only [h3, h4, if_false, if_true]
              intro p q
              have := ltI_s.tr _ _ _ p q
              rw [ltI_s.irr] at this; cases this
            · simp only [h3, h4, h5, if_false]
              exact ltI_s.tr _ _ _
      · simp [h2]
    · by_cases h2 : y = z
      · subst h2; simp [h1]; exact fun p _ => p
      · by_cases h3 : x = z
        · subst h3; simp [h1, h2]; omega
        · simp [h1, h2, h3]; omega
  · obtain ⟨a1, a2⟩ := a
    obtain ⟨b1, b2⟩ := b
    simp only [mtLt]
    by_cases h1 : nMt (a1, a2) = nMt (b1, b2)
    · simp only [h1, if_true]
      by_cases h2 : a1 = b1
      · subst h2
        rcases ltI_s.tri a2 b2 with z | z | z <;> simp [z]
      · have h3 : ¬ b1 = a1 := fun z => h2 z.symm
        rcases ltI_s.tri a1 b1 with z | z | z
        · simp [h2, z]
        · exact absurd z h2
        · simp [h3, z]
    · have h2 : ¬ nMt (b1, b2) = nMt (a1, a2) := fun z => h1 z.symm
      simp [h1, h2]; omega
theorem eqv_mt (a b : Mt) : PyData.eqv (eMt a) (eMt b) = decide (a = b) := by
  obtain ⟨a1, a2⟩ := a
  obtain ⟨b1, b2⟩ := b
  have h1 := eqv_tupI a1 b1
  have h2 := eqv_tupI a2 b2
  simp only [eMt, eP]
  rw [show PyData.eqv (.tuple [.tuple (eI a1), .tuple (eI a2)]) (.tuple [.tuple (eI b1), .tuple (eI b2)]) = (PyData.eqv (.tuple (eI a1)) (.tuple (eI b1)) && (PyData.eqv (.tuple (eI a2)) (.tuple (eI b2)) && true)) by simp only [PyData.eqv, PyData.eqvAll]]
  rw [h1, h2, Bool.eq_iff_iff]
  simp
theorem alike_tupI (xs ys : List Int) : PySem.W.alike (.tuple (eI xs)) (.tuple (eI ys)) = true := by
  simp only [PySem.W.alike]
  exact PySem.W.alike_ints xs ys
theorem alike_mt (a b : Mt) : PySem.W.alike (eMt a) (eMt b) = true := by
  have h1 := alike_tupI a.1 b.1
  have h2 := alike_tupI a.2 b.2
  simp only [eMt, eP]
  rw [PySem.W.alike]
  simp only [PySem.W.alikeAll, h1, h2, Bool.and_self]
theorem depthI (xs : List Int) : (PyData.tuple (eI xs)).depth = 1 := by
  simp only [PyData.depth]
  have : PyData.depthAll (eI xs) = 0 := by
    have h : PyData.depthAll (eI xs) ≤ 0 := depthAll_map (enc := PyData.int) (n := 0) (fun a => by simp [PyData.depth]) xs
    omega
  omega
theorem depth_mt (m : Mt) : (eMt m).depth = 2 := by
  have h1 := depthI m.1
  have h2 := depthI m.2
  simp only [eMt, eP]
  rw [PyData.depth]
  simp only [PyData.depthAll, h1, h2]
  rfl
theorem lt_mt (a b : Mt) : PySem.W.dataLt (eMt a) (eMt b) = if a.1 = b.1 then ltI a.2 b.2 else ltI a.1 b.1 := by
  obtain ⟨a1, a2⟩ := a
  obtain ⟨b1, b2⟩ := b
  simp only [eMt, eP]
  rw [lt_tuple, ltAll_cons (alike_tupI _ _), ltAll_cons (alike_tupI _ _), ltAll_nil, eqv_tupI, eqv_tupI, lt_tuple, lt_tuple, lt_ints, lt_ints]
  by_cases h1 : a1 = b1
  · subst h1
    by_cases h2 : a2 = b2
    · subst h2; simp [ltI_s.irr]
    · simp [h2]
  · simp [h1]
/-- the key of a match -/
def eRank (m : Mt) : PyData := .tuple [.int (nMt m), eMt m]
theorem lt_rank (a b : Mt) : PySem.W.dataLt (eRank a) (eRank b) = mtLt a b := by
  unfold eRank mtLt
  rw [lt_tuple, ltAll_cons rfl, ltAll_cons (alike_mt a b), ltAll_nil, eqv_mt, lt_mt, PySem.W.dataLt_int]
  simp only [PyData.eqv, beq_iff_eq]
  by_cases h : nMt a = nMt b
  · simp only [h, if_true]
    by_cases h2 : a = b
    · subst h2; simp [ltI_s.irr]
    · simp only [h2, decide_false]
      rfl
  · simp [h]
theorem alike_rank (a b : Mt) : PySem.W.alike (eRank a) (eRank b) = true := by
  have h := alike_mt a b
  unfold eRank
  rw [PySem.W.alike]
  simp only [PySem.W.alikeAll, h, Bool.and_true]
  rfl
theorem depth_rank (m : Mt) : (eRank m).depth = 3 := by
  have h := depth_mt m
  unfold eRank
  rw [PyData.depth]
  simp only [PyData.depthAll, h]
  rfl
/-- the law's own rows -/
def eRowM (m : Mt) : PyData := .tuple [.int (nMt m), .tuple (eI m.1), .tuple (eI m.2)]
theorem lt_rowM (a b : Mt) : PySem.W.dataLt (eRowM a) (eRowM b) = mtLt a b := by
  obtain ⟨a1, a2⟩ := a
  obtain ⟨b1, b2⟩ := b
  unfold eRowM mtLt
  simp only
  rw [lt_tuple, ltAll_cons rfl, ltAll_cons (alike_tupI _ _), ltAll_cons (alike_tupI _ _), ltAll_nil, eqv_tupI, eqv_tupI, lt_tuple, lt_tuple, lt_ints, lt_ints, PySem.W.dataLt_int]
  simp only [PyData.eqv, beq_iff_eq]
  by_cases h : nMt (a1, a2) = nMt (b1, b2)
  · simp only [h, if_true]
    by_cases h1 : a1 = b1
    · subst h1
      by_cases h2 : a2 = b2
      · subst h2; simp [ltI_s.irr]
      · simp [h2]
    · simp [h1]
  · simp [h]
theorem sort_rowsM (ms : List Mt) : dSorted [.list (ms.map eRowM)] = some ((ms.mergeSort (leOf mtLt)).map eRowM) := by
  unfold dSorted
  have hok : sortOk (ms.map eRowM) = true := by
    unfold sortOk
    simp only [Bool.and_eq_true, Bool.or_eq_true, List.all_eq_true, List.mem_map]
    refine ⟨⟨?_, .inl ?_⟩, ?_⟩
    · rintro x ⟨a, _, rfl⟩ y ⟨b, _, rfl⟩
      unfold eRowM
      rw [PySem.W.alike]
      simp only [PySem.W.alikeAll, alike_tupI, Bool.and_true]
      rfl
    · rintro x ⟨a, _, rfl⟩; rfl
    · rintro x ⟨a, _, rfl⟩
      have h1 := depthI a.1
      have h2 := depthI a.2
      refine shal_of (n := 2) ?_
      unfold eRowM
      rw [PyData.depth]
      simp only [PyData.depthAll, h1, h2]
      rfl
  simp only [hok, if_true]
  congr 1
  refine (PySem.W.sort_maps eRowM fun a _ b _ => ?_).symm
  rw [PySem.W.dataLe_eq]
  simp only [id, cond_false, lt_rowM, leOf]
/-! ### whole numbers sorted -/
def ltII (a b : Int) : Bool := decide (a < b)
theorem ltII_s : SLt ltII := ⟨fun a => by simp [ltII], fun a b c => by simp [ltII]; omega, fun a b => by simp [ltII]; omega⟩
theorem sort_intsE (xs : List Int) : dSorted [.list (eI xs)] = some (eI (xs.mergeSort (leOf ltII))) := by
  unfold dSorted
  have hok : sortOk (eI xs) = true := by
    unfold sortOk
    simp only [Bool.and_eq_true, Bool.or_eq_true, List.all_eq_true, List.mem_map]
    refine ⟨⟨?_, .inr ?_⟩, ?_⟩
    · rintro x ⟨a, _, rfl⟩ y ⟨b, _, rfl⟩; rfl
    · rintro x ⟨a, _, rfl⟩; rfl
    · rintro x ⟨a, _, rfl⟩; rfl
  simp only [hok, if_true]
  congr 1
  refine (PySem.W.sort_maps PyData.int fun a _ b _ => ?_).symm
  rw [PySem.W.dataLe_eq]
  simp only [id, cond_false, PySem.W.dataLt_int, leOf, ltII]
theorem sorted_strictI {xs : List Int} (h : xs.Nodup) : (xs.mergeSort (leOf ltII)).Pairwise (· < ·) := by
  have s1 := List.pairwise_mergeSort (le := leOf ltII) (fun _ _ _ => ltII_s.trans) ltII_s.total xs
  have s2 : (xs.mergeSort (leOf ltII)).Nodup := (List.mergeSort_perm xs _).nodup_iff.mpr h
  exact (s1.and s2).imp fun {a b} ⟨p, q⟩ => by
    simp [leOf, ltII] at p
    omega
/-! ### rests -/
abbrev MkD := Str × Int
def marksM (m : Mt) : List MkD := marksI m.1 m.2
def tK (r : List MkD) : PyData := .tuple (r.map markD)
def wo (r : List MkD) (m : Mt) : List MkD := r.filter fun x => !decide (x ∈ marksM m)
def opn (r : List MkD) (m : Mt) : Bool := (match r with | [] => false | x :: _ => decide (x ∈ marksM m)) && (marksM m).all fun y => decide (y ∈ r)
/-- a match of few places -/
def MtOk (m : Mt) : Prop := m.1.length ≤ 100 ∧ m.2.length ≤ 100
theorem marks_of_M {m : Mt} (h : MtOk m) : S_marks_of [eMt m] = some (.list ((marksM m).map markD)) := marks_of_eq (by have := h.1; omega) (by have := h.2; omega)
theorem lc_wo (r : List MkD) (ms : List MkD) {i v : Nat} {ρ : Dv} (hv : v ≠ i) (hi : i < ρ.length) (h0 : ρ[v]? = some (some (.list (ms.map markD)))) :
    lcGo (tgN i) (asB (f2 dNotIn (vF i) (vF v))) (vF i) ρ (r.map markD) = some ((r.filter fun x => !decide (x ∈ ms)).map markD) := by
  refine lc_filter markD markD (fun x => !decide (x ∈ ms)) r fun x hx => ⟨ρ.set i (some (markD x)), rfl, ?_, fun _ => by simp [hi]⟩
  have h := notIn_list eqv_markD depth_markD ms x
  simp [hi, h0, List.getElem?_set_ne (Ne.symm hv), h]
theorem lc_in (r : List MkD) (ms : List MkD) {i v : Nat} {ρ : Dv} (hv : v ≠ i) (hi : i < ρ.length) (h0 : ρ[v]? = some (some (tK r))) :
    lcGo (tgN i) yesT (f2 dIn (vF i) (vF v)) ρ (ms.map markD) = some ((ms.map fun y => decide (y ∈ r)).map .bool) := by
  rw [lc_map markD (fun y => .bool (decide (y ∈ r))) ms fun y hy => ?_]
  · simp
  · have h := in_tup eqv_markD depth_markD r y
    unfold tK at h0
    simp [hi, h0, List.getElem?_set_ne (Ne.symm hv), h]
theorem boolsD_map : ∀ bs : List Bool, boolsD (bs.map .bool) = some bs
  | [] => rfl
  | b :: bs => by simp [boolsD, boolsD_map bs]
theorem boolsD_mapF {α : Type} (f : α → Bool) : ∀ xs : List α, boolsD (xs.map fun x => .bool (f x)) = some (xs.map f)
  | [] => rfl
  | x :: xs => by simp [boolsD, boolsD_mapF f xs]
theorem all_mapF {α : Type} (f : α → Bool) (xs : List α) : dAll [.list (xs.map fun x => .bool (f x))] = some (.bool (xs.all f)) := by
  unfold dAll
  simp [boolsD_mapF, List.all_map, Function.comp_def]
theorem all_mapC {α : Type} (f : α → Bool) (xs : List α) : dAll [.list (xs.map (PyData.bool ∘ f))] = some (.bool (xs.all f)) := all_mapF f xs
theorem without_eq {r : List MkD} {m : Mt} (h : MtOk m) : S_without [tK r, eMt m] = some (tK (wo r m)) := by
  unfold S_without B_without
  have h1 := marks_of_M h
  simp [h1]
  rw [show tK r = PyData.tuple (r.map markD) from rfl]
  simp only [Option.bind_some, Function.comp_apply]
  rw [lc_wo r (marksM m) (by decide) (by simp) rfl]
  rfl
theorem is_open_eq {r : List MkD} {m : Mt} (h : MtOk m) (hr : r ≠ []) : S_is_open [tK r, eMt m] = some (.bool (opn r m)) := by
  obtain ⟨x, r', rfl⟩ : ∃ x r', r = x :: r' := by cases r with | nil => exact absurd rfl hr | cons x r' => exact ⟨x, r', rfl⟩
  unfold S_is_open B_is_open
  have h1 := marks_of_M h
  have h2 := in_list eqv_markD depth_markD (marksM m) x
  have h3 : dIx (tK (x :: r')) (.int 0) = some (markD x) := at0
  simp [h1, h3, h2]
  cases e : decide (x ∈ marksM m) with
  | false =>
    have e' : ¬ x ∈ marksM m := by simpa using e
    simp [opn, e']
  | true =>
    have e' : x ∈ marksM m := by simpa using e
    simp [e']
    rw [lc_in (x :: r') (marksM m) (by decide) (by simp) rfl]
    simp [opn, e', all_mapC]
/-! ### keys -/
def nkM (x : MkD) : NestedKey := .tup [.text x.1, .num x.2]
def kM (r : List MkD) : NestedKey := .tup (r.map nkM)
theorem nk_markD (x : MkD) : nk (markD x) = some (nkM x) := by simp [markD, nk, nkAll, nkM]
theorem nkAll_marks : ∀ r : List MkD, nkAll (r.map markD) = some (r.map nkM)
  | [] => rfl
  | x :: r => by simp only [List.map_cons, nkAll, nk_markD, nkAll_marks r]
theorem depth_nkM : ∀ r : List MkD, NestedKey.depthAll (r.map nkM) ≤ 1
  | [] => by simp [NestedKey.depthAll]
  | x :: r => by
    have ih := depth_nkM r
    simp only [List.map_cons, NestedKey.depthAll, nkM, NestedKey.depth]
    omega
theorem key_tK (r : List MkD) : keyOf (tK r) = some (kM r) := by
  have h : nk (.tuple (r.map markD)) = some (kM r) := by simp only [nk, nkAll_marks]; rfl
  unfold keyOf tK
  simp only [h]
  have hd : (kM r).depth ≤ 8 := by
    have := depth_nkM r
    simp only [kM, NestedKey.depth]
    omega
  rw [if_pos hd]
theorem kM_inj {r r' : List MkD} : kM r = kM r' ↔ r = r' := by
  constructor
  · intro h
    simp only [kM, NestedKey.tup.injEq] at h
    have inj : ∀ x y : MkD, nkM x = nkM y → x = y := fun x y e => by
      obtain ⟨x1, x2⟩ := x
      obtain ⟨y1, y2⟩ := y
      simp [nkM] at e
      simp [e]
    exact (List.map_inj_right (fun x y e => inj x y e)).mp h
  · rintro rfl; rfl
/-- a table of rests -/
def eTab (t : List (List MkD × Int)) : List (PyData × PyData) := t.map fun p => (tK p.1, .int p.2)
def tGet (t : List (List MkD × Int)) (r : List MkD) : Option Int := (t.find? fun p => decide (p.1 = r)).map (·.2)
theorem nk_tK (r : List MkD) : nk (tK r) = some (kM r) := by
  show nk (.tuple (r.map markD)) = _
  simp only [nk, nkAll_marks]; rfl
theorem get_tab (r : List MkD) : ∀ t : List (List MkD × Int), kvGet (eTab t) (kM r) = (tGet t r).map .int
  | [] => rfl
  | p :: t => by
    have ih := get_tab r t
    unfold kvGet tGet eTab at *
    by_cases h : p.1 = r
    · subst h
      simp [List.find?_cons_of_pos, nk_tK]
    · have h' : ¬ kM p.1 = kM r := fun z => h (kM_inj.mp z)
      rw [List.map_cons, List.find?_cons_of_neg (by simpa [nk_tK] using h'), List.find?_cons_of_neg (by simpa using h)]
      exact ih
theorem set_tab {t : List (List MkD × Int)} {r : List MkD} {v : Int} (h : tGet t r = none) : kvSet (eTab t) (tK r) (kM r) (.int v) = eTab (t ++ [(r, v)]) := by
  unfold kvSet
  rw [get_tab, h]
  simp [eTab]
end Dat
open PySem PySem.Spec PyProof.Rows L2
namespace Dat
/-! ### loops, by what holds -/
theorem for_ex {tgt : Tgt} {B : Bs} {α : Type} (enc : α → PyData) (Inv : List α → Dv → Prop) : ∀ (post pre : List α) (ρ : Dv), Inv pre ρ → (∀ pre' x post' ρ, pre ++ post = pre' ++ x :: post' → Inv pre' ρ → ∃ ρ', (tgt (enc x) ρ).bind B = some (.nx ρ') ∧ Inv (pre' ++ [x]) ρ') →
    ∃ ρ', forGo tgt B (post.map enc) ρ = some (.nx ρ') ∧ Inv (pre ++ post) ρ'
  | [], pre, ρ, h, _ => ⟨ρ, rfl, by rw [List.append_nil]; exact h⟩
  | x :: post, pre, ρ, h, st => by
    obtain ⟨ρ1, h1, h2⟩ := st pre x post ρ rfl h
    obtain ⟨ρ2, h3, h4⟩ := for_ex enc Inv post (pre ++ [x]) ρ1 h2 fun pre' y post' ρ' e i => st pre' y post' ρ' (by rw [← e]; simp) i
    refine ⟨ρ2, ?_, by rw [show pre ++ x :: post = pre ++ [x] ++ post by simp]; exact h4⟩
    rw [List.map_cons]
    unfold forGo
    cases q : tgt (enc x) ρ with
    | none => rw [q] at h1; simp at h1
    | some ρ' =>
      rw [q, Option.bind_some] at h1
      simp [h1, h3]
/-! ### all parts of a list -/
def subs {α : Type} : List α → List (List α)
  | [] => [[]]
  | x :: r => subs r ++ (subs r).map (x :: ·)
theorem subs_len {α : Type} : ∀ l : List α, (subs l).length = 2 ^ l.length
  | [] => rfl
  | x :: r => by simp only [subs, List.length_append, List.length_map, subs_len r, List.length_cons, Nat.pow_succ]; omega
theorem subs_mem {α : Type} {l s : List α} (h : s.Sublist l) : s ∈ subs l := by
  induction h with
  | slnil => simp [subs]
  | cons x _ ih => simp only [subs, List.mem_append]; exact .inl ih
  | cons_cons x _ ih => simp only [subs, List.mem_append, List.mem_map]; exact .inr ⟨_, ih, rfl⟩
/-! ### the table -/
abbrev Tb := List (List MkD × Int)
/-- what a rest's value must be in a table -/
def OkAt (ms : List Mt) (t : Tb) (r : List MkD) (v : Int) : Prop := match r with
  | [] => v = 0
  | x :: tl => ∃ a, tGet t tl = some a ∧ (∀ m, m ∈ ms → opn (x :: tl) m = true → (tGet t (wo (x :: tl) m)).isSome = true) ∧ v = (ms.filter (opn (x :: tl))).foldl (fun b m => min b ((tGet t (wo (x :: tl) m)).getD 0)) (1 + a)
structure Good (ms : List Mt) (t : Tb) : Prop where
  nd : (t.map (·.1)).Nodup
  ok : ∀ r v, tGet t r = some v → OkAt ms t r v
/-- a set of rests that holds what comes of each -/
def Clo (ms : List Mt) (S : List MkD → Prop) : Prop := ∀ x tl, S (x :: tl) → S tl ∧ ∀ m, m ∈ ms → opn (x :: tl) m = true → S (wo (x :: tl) m)
theorem tGet_app {t u : Tb} {r : List MkD} {v : Int} (h : tGet t r = some v) : tGet (t ++ u) r = some v := by
  unfold tGet at *
  rw [List.find?_append]
  cases e : t.find? (fun p => decide (p.1 = r)) with
  | none => rw [e] at h; cases h
  | some p => rw [e] at h; exact h
theorem tGet_none {t : Tb} {r : List MkD} : tGet t r = none ↔ r ∉ t.map (·.1) := by
  unfold tGet
  rw [Option.map_eq_none_iff, List.find?_eq_none]
  simp only [decide_eq_true_eq, List.mem_map, not_exists, not_and]
theorem tGet_new {t : Tb} {r : List MkD} {v : Int} (h : tGet t r = none) : tGet (t ++ [(r, v)]) r = some v := by
  unfold tGet at *
  rw [List.find?_append]
  rw [Option.map_eq_none_iff] at h
  rw [h]
  simp
theorem tGet_other {t : Tb} {r r' : List MkD} {v : Int} (h : r' ≠ r) : tGet (t ++ [(r, v)]) r' = tGet t r' := by
  unfold tGet
  rw [List.find?_append]
  cases t.find? (fun p => decide (p.1 = r')) with
  | none => simp [Ne.symm h]
  | some p => rfl
theorem foldl_congr {α β : Type} {f g : β → α → β} : ∀ {l : List α} {b : β}, (∀ b x, x ∈ l → f b x = g b x) → l.foldl f b = l.foldl g b
  | [], _, _ => rfl
  | x :: l, b, h => by
    rw [List.foldl_cons, List.foldl_cons, h b x (by simp)]
    exact foldl_congr fun b y hy => h b y (by simp [hy])
theorem OkAt.app {ms : List Mt} {t u : Tb} {r : List MkD} {v : Int} (h : OkAt ms t r v) : OkAt ms (t ++ u) r v := by
  unfold OkAt at *
  cases r with
  | nil => exact h
  | cons x tl =>
    obtain ⟨a, h1, h2, h3⟩ := h
    refine ⟨a, tGet_app h1, fun m hm ho => ?_, ?_⟩
    · obtain ⟨b, hb⟩ := Option.isSome_iff_exists.mp (h2 m hm ho)
      rw [tGet_app hb]; rfl
    · rw [h3]
      refine foldl_congr fun b m hm => ?_
      obtain ⟨hm1, hm2⟩ := List.mem_filter.mp hm
      obtain ⟨c, hc⟩ := Option.isSome_iff_exists.mp (h2 m hm1 hm2)
      rw [tGet_app hc, hc]
theorem Good.add {ms : List Mt} {t : Tb} (g : Good ms t) {r : List MkD} {v : Int} (hn : tGet t r = none) (h : OkAt ms t r v) : Good ms (t ++ [(r, v)]) := by
  refine ⟨?_, fun r' v' e => ?_⟩
  · rw [List.map_append, List.nodup_append]
    refine ⟨g.nd, by simp, fun a ha b hb => ?_⟩
    simp at hb
    subst hb
    intro e
    subst e
    exact (tGet_none.mp hn) ha
  · by_cases hr : r' = r
    · subst hr
      rw [tGet_new hn] at e; cases e
      exact h.app
    · rw [tGet_other hr] at e
      exact (g.ok r' v' e).app
theorem wo_sub (r : List MkD) (m : Mt) : (wo r m).Sublist r := List.filter_sublist
theorem wo_lt {r : List MkD} {m : Mt} (h : opn r m = true) : (wo r m).length < r.length := by
  unfold opn at h
  cases r with
  | nil => simp at h
  | cons x tl =>
    have hx : x ∈ marksM m := by simp at h; exact h.1
    unfold wo
    rw [List.filter_cons_of_neg (by simp [hx])]
    have := List.length_filter_le (fun x => !decide (x ∈ marksM m)) tl
    simp only [List.length_cons]
    omega
theorem Good.clo {ms : List Mt} {t : Tb} (g : Good ms t) (n : Nat) : Clo ms fun k => k.length < n ∨ k ∈ t.map (·.1) := by
  have isk : ∀ r, (tGet t r).isSome = true → r ∈ t.map (·.1) := fun r h => Classical.byContradiction fun z => by rw [tGet_none.mpr z] at h; cases h
  intro x tl h
  rcases h with h | h
  · refine ⟨.inl (by simp at h; omega), fun m hm ho => .inl ?_⟩
    have := wo_lt ho
    omega
  · obtain ⟨v, hv⟩ : ∃ v, tGet t (x :: tl) = some v := by
      cases e : tGet t (x :: tl) with
      | none => exact absurd h (tGet_none.mp e)
      | some v => exact ⟨v, rfl⟩
    obtain ⟨a, h1, h2, _⟩ := g.ok _ _ hv
    exact ⟨.inr (isk _ (by rw [h1]; rfl)), fun m hm ho => .inr (isk _ (h2 m hm ho))⟩
theorem min_ii (a b : Int) : dMin [.int a, .int b] = some (.int (min a b)) := by
  have e : dMin [.int a, .int b] = some (.int (if b < a then b else a)) := rfl
  rw [e]
  congr 2
  split <;> omega
theorem key_of_get {t : Tb} {r : List MkD} {v : Int} (h : tGet t r = some v) : r ∈ t.map (·.1) := Classical.byContradiction fun z => by rw [tGet_none.mpr z] at h; cases h
/-- what filled promises -/
def Fills (ms : List Mt) (f : GT) (G : List MkD) (r : List MkD) (t : Tb) : Prop :=
  ∃ (u : Tb) (v : Int), f (eTab t) [tK r, .list (ms.map eMt)] = some (.int v, eTab (t ++ u)) ∧ Good ms (t ++ u) ∧ tGet (t ++ u) r = some v ∧ ∀ S : List MkD → Prop, Clo ms S → S r → (∀ k, k ∈ t.map (·.1) → S k) → ∀ k, k ∈ (t ++ u).map (·.1) → S k
def BFo (self : GT) : Bs := ifS (asB (fL S_is_open (consA (vF 1) (consA (vF 4) nilA)))) (setE 3 (fLE dMin (consE (vF 3) (lastE (callTE self 0 (consA (fL S_without (consA (vF 1) (consA (vF 4) nilA))) (consA (vF 2) nilA))))))) nopS
theorem loopF {ms : List Mt} {self : GT} {G : List MkD} (hms : ∀ m, m ∈ ms → MtOk m) {r : List MkD} (hr : r ≠ []) {t1 : Tb} {b0 : Int} (g1 : Good ms t1)
    (hs : ∀ m, m ∈ ms → opn r m = true → ∀ t, (∃ u, t = t1 ++ u) → Good ms t → (∀ S : List MkD → Prop, Clo ms S → (∀ m, m ∈ ms → opn r m = true → S (wo r m)) → (∀ k, k ∈ t1.map (·.1) → S k) → ∀ k, k ∈ t.map (·.1) → S k) → Fills ms self G (wo r m) t) (v4 : Option PyData) :
    ∃ (u : Tb) (w4 : Option PyData), forGo (tgN 4) (BFo self) (ms.map eMt) [some (.dict (eTab t1)), some (tK r), some (.list (ms.map eMt)), some (.int b0), v4] =
      some (.nx [some (.dict (eTab (t1 ++ u))), some (tK r), some (.list (ms.map eMt)), some (.int ((ms.filter (opn r)).foldl (fun b m => min b ((tGet (t1 ++ u) (wo r m)).getD 0)) b0)), w4]) ∧ Good ms (t1 ++ u) ∧
      (∀ m, m ∈ ms → opn r m = true → (tGet (t1 ++ u) (wo r m)).isSome = true) ∧ ∀ S : List MkD → Prop, Clo ms S → (∀ m, m ∈ ms → opn r m = true → S (wo r m)) → (∀ k, k ∈ t1.map (·.1) → S k) → ∀ k, k ∈ (t1 ++ u).map (·.1) → S k := by
  have go := for_ex (tgt := tgN 4) (B := BFo self) eMt (fun pre ρ => ∃ (u : Tb) (w4 : Option PyData), ρ = [some (.dict (eTab (t1 ++ u))), some (tK r), some (.list (ms.map eMt)), some (.int ((pre.filter (opn r)).foldl (fun b m => min b ((tGet (t1 ++ u) (wo r m)).getD 0)) b0)), w4] ∧ Good ms (t1 ++ u) ∧
      (∀ m, m ∈ pre → opn r m = true → (tGet (t1 ++ u) (wo r m)).isSome = true) ∧ ∀ S : List MkD → Prop, Clo ms S → (∀ m, m ∈ ms → opn r m = true → S (wo r m)) → (∀ k, k ∈ t1.map (·.1) → S k) → ∀ k, k ∈ (t1 ++ u).map (·.1) → S k) ms [] [some (.dict (eTab t1)), some (tK r), some (.list (ms.map eMt)), some (.int b0), v4] ⟨[], v4, by simp, by simpa using g1, by simp, fun S _ _ h k hk => h k (by simpa using hk)⟩ (fun pre m post ρ e ⟨u, w4, hρ, g, hsome, hcl⟩ => ?_)
  · obtain ⟨ρ', h1, u, w4, h2, h3, h4, h5⟩ := go
    refine ⟨u, w4, ?_, h3, h4, h5⟩
    rw [List.nil_append] at h2
    rw [← h2, ← h1]
  · rw [List.nil_append] at e
    subst hρ
    have hm : m ∈ ms := by rw [e]; simp
    have ho := is_open_eq (r := r) (hms m hm) hr
    cases hop : opn r m with
    | false =>
      rw [hop] at ho
      refine ⟨_, ?_, u, some (eMt m), rfl, g, ?_, hcl⟩
      · unfold BFo
        simp [ho, List.filter_append, hop]
      · intro m' hm' ho'
        rcases List.mem_append.mp hm' with h | h
        · exact hsome m' h ho'
        · rw [List.mem_singleton.mp h, hop] at ho'; cases ho'
    | true =>
      rw [hop] at ho
      obtain ⟨u2, v, f1, f2, f3, f4⟩ := hs m hm hop (t1 ++ u) ⟨u, rfl⟩ g hcl
      have hw := without_eq (r := r) (hms m hm)
      refine ⟨_, ?_, u ++ u2, some (eMt m), rfl, by rw [← List.append_assoc]; exact f2, ?_, ?_⟩
      · unfold BFo
        have hst : (pre.filter (opn r)).foldl (fun b m => min b ((tGet (t1 ++ (u ++ u2)) (wo r m)).getD 0)) b0 = (pre.filter (opn r)).foldl (fun b m => min b ((tGet (t1 ++ u) (wo r m)).getD 0)) b0 := by
          refine foldl_congr fun b m' hm' => ?_
          obtain ⟨a1, a2⟩ := List.mem_filter.mp hm'
          obtain ⟨c, hc⟩ := Option.isSome_iff_exists.mp (hsome m' a1 a2)
          rw [← List.append_assoc, tGet_app hc, hc]
        have hv : tGet (t1 ++ (u ++ u2)) (wo r m) = some v := by rw [← List.append_assoc]; exact f3
        rw [List.filter_append, List.foldl_append, hst]
        simp [List.append_assoc] at f1
        simp [ho, hop, hv, setE, fLE, consE, lastE, callTE, dvGet, hw, f1, min_ii]
      · intro m' hm' ho'
        rcases List.mem_append.mp hm' with h | h
        · obtain ⟨c, hc⟩ := Option.isSome_iff_exists.mp (hsome m' h ho')
          rw [← List.append_assoc, tGet_app hc]; rfl
        · rw [List.mem_singleton.mp h, ← List.append_assoc, f3]; rfl
      · intro S hS hSr hSt k hk
        rw [← List.append_assoc] at hk
        have hSw : S (wo r m) := hSr m hm hop
        exact f4 S hS hSw (hcl S hS hSr hSt) k hk
end Dat
open PySem PySem.Spec PyProof.Rows L2
namespace Dat
theorem clo_sub (ms : List Mt) (G : List MkD) : Clo ms fun k => k.Sublist G := fun x tl h => ⟨(List.sublist_cons_self x tl).trans h, fun m _ _ => (wo_sub _ m).trans h⟩
theorem tab_small {ms : List Mt} {t : Tb} {G : List MkD} (g : Good ms t) (h : ∀ k, k ∈ t.map (·.1) → k.Sublist G) (hG : G.length ≤ 10) : t.length ≤ 1024 := by
  have h1 : (t.map (·.1)).length ≤ (subs G).length := g.nd.length_le_of_subset fun k hk => subs_mem (h k hk)
  rw [List.length_map, subs_len] at h1
  have h2 : 2 ^ G.length ≤ 2 ^ 10 := Nat.pow_le_pow_right (by omega) hG
  omega
theorem sl_tail {x : MkD} {tl : List MkD} : dSl (tK (x :: tl)) (some 1) none = some (tK tl) := by
  have h : ∀ n : Nat, HT.sIx n 0 (some 1) = min 1 n := fun n => HT.sIx_nat n 0 1
  show (if ¬ (HT.sIx ((x :: tl).map markD).length 0 (some 1) = 0 ∧ HT.sIx ((x :: tl).map markD).length ((x :: tl).map markD).length none = ((x :: tl).map markD).length) then some (PyData.tuple (cutD ((x :: tl).map markD) (some 1) none)) else none) = _
  unfold cutD
  simp only [h, HT.sIx_none, List.length_map]
  simp [tK]
  rw [List.take_of_length_le (by simp)]
theorem filled_eq {ms : List Mt} (hms : ∀ m, m ∈ ms → MtOk m) {G : List MkD} (hG : G.length ≤ 10) : ∀ (n : Nat) (r : List MkD) (t : Tb), r.length < n → r.Sublist G → Good ms t → (∀ k, k ∈ t.map (·.1) → k.Sublist G) → Fills ms (S_filled n) G r t
  | 0, r, t, h, _, _, _ => by omega
  | n + 1, r, t, h, hr, g, hk => by
    have hkey := key_tK r
    have hg := get_tab r t
    cases e : tGet t r with
    | some v =>
      rw [e] at hg
      refine ⟨[], v, ?_, by simpa using g, by simpa using e, fun S _ _ hS k hk => hS k (by simpa using hk)⟩
      simp [S_filled, runT, B_filled, tabF2, hIn, hkey, hg]
    | none =>
      rw [e] at hg
      have hnin := tGet_none.mp e
      cases r with
      | nil =>
        have hs : t.length ≤ 1024 := tab_small g hk hG
        have g' : Good ms (t ++ [([], 0)]) := g.add e rfl
        have hset := set_tab (v := 0) e
        refine ⟨[([], 0)], 0, ?_, g', tGet_new e, fun S _ hS0 hS k hk => ?_⟩
        · have hlen : dLen [tK []] = some (.int 0) := rfl
          have hsz : (eTab t).length < 16777216 := by simp [eTab]; omega
          simp [S_filled, runT, B_filled, tabF2, hIn, hkey, hg, hlen, tabSetS, hsz, hset]
        · rw [List.map_append] at hk
          rcases List.mem_append.mp hk with hk | hk
          · exact hS k hk
          · simp at hk; rw [hk]; exact hS0
      | cons x tl =>
        obtain ⟨u1, a, q1, q2, q3, q4⟩ := filled_eq hms hG n tl t (by simp at h; omega) ((List.sublist_cons_self x tl).trans hr) g hk
        have hlf := loopF (G := G) (self := S_filled n) hms (r := x :: tl) (by simp) (b0 := 1 + a) q2 (fun m hm ho t2 ht2 g2 hc2 => filled_eq hms hG n (wo (x :: tl) m) t2 (by have := wo_lt ho; simp at h this ⊢; omega) ((wo_sub _ m).trans hr) g2
          (fun k hk2 => hc2 _ (clo_sub ms G) (fun m' _ _ => (wo_sub _ m').trans hr) (fun k hk3 => q4 _ (clo_sub ms G) ((List.sublist_cons_self x tl).trans hr) hk k hk3) k hk2)) none
        obtain ⟨u2, w4, h1, h2, h3, h4⟩ := hlf
        have hall : ∀ S : List MkD → Prop, Clo ms S → S tl → (∀ m, m ∈ ms → opn (x :: tl) m = true → S (wo (x :: tl) m)) → (∀ k, k ∈ t.map (·.1) → S k) → ∀ k, k ∈ (t ++ u1 ++ u2).map (·.1) → S k := fun S hS hS1 hS2 hSt =>
          h4 S hS hS2 (q4 S hS hS1 hSt)
        have hnew : tGet (t ++ u1 ++ u2) (x :: tl) = none := by
          rw [tGet_none]
          intro hin
          have f5 := hall _ (g.clo (x :: tl).length) (.inl (by simp)) (fun m _ ho => .inl (wo_lt ho)) (fun k hk => .inr hk) _ hin
          rcases f5 with f5 | f5
          · omega
          · exact hnin f5
        have hsub := hall _ (clo_sub ms G) ((List.sublist_cons_self x tl).trans hr) (fun m _ _ => (wo_sub _ m).trans hr) hk
        have hsz0 := tab_small h2 hsub hG
        have hok : OkAt ms (t ++ u1 ++ u2) (x :: tl) ((ms.filter (opn (x :: tl))).foldl (fun b m => min b ((tGet (t ++ u1 ++ u2) (wo (x :: tl) m)).getD 0)) (1 + a)) := ⟨a, tGet_app q3, h3, rfl⟩
        generalize hv : (ms.filter (opn (x :: tl))).foldl (fun b m => min b ((tGet (t ++ u1 ++ u2) (wo (x :: tl) m)).getD 0)) (1 + a) = v at h1 hok
        have hset := set_tab (v := v) hnew
        refine ⟨u1 ++ u2 ++ [(x :: tl, v)], v, ?_, ?_, ?_, ?_⟩
        · have hlen : dLen [tK (x :: tl)] = some (.int ((tl.length + 1 : Nat) : Int)) := by simp [tK]
          have hpos : (0 : Int) < ((tl.length + 1 : Nat) : Int) := by omega
          have hsz : (eTab (t ++ u1 ++ u2)).length < 16777216 := by unfold eTab; rw [List.length_map]; omega
          have happ : t ++ (u1 ++ u2 ++ [(x :: tl, v)]) = t ++ u1 ++ u2 ++ [(x :: tl, v)] := by simp
          rw [happ]
          unfold BFo at h1
          generalize eTab (t ++ u1 ++ u2) = T3 at *
          generalize eTab (t ++ u1) = T1 at *
          have a1 : ∀ B : Bs, (ifS (asB (tabF2 hIn 0 (vF 1))) B nopS) (env0 5 [.dict (eTab t), tK (x :: tl), .list (ms.map eMt)]) = some (.nx [some (.dict (eTab t)), some (tK (x :: tl)), some (.list (ms.map eMt)), none, none]) := fun B => by
            simp [tabF2, hIn, hkey, hg]
          have a2 : (asB (f2 dGt (fL dLen (consA (vF 1) nilA)) (cF (.int 0)))) [some (.dict (eTab t)), some (tK (x :: tl)), some (.list (ms.map eMt)), some (.int 0), none] = some true := by
            simp only [e_asB, e_f2, e_fL, e_consA, e_nilA, e_vF, e_cF, List.getElem?_cons_succ, List.getElem?_cons_zero, Option.join_some, Option.bind_some, Option.map_some, hlen, e_dGt, hpos, decide_true]
          have a3 : (setE 3 (opE dAdd (cF (.int 1)) (callTE (S_filled n) 0 (consA (slF dSl (vF 1) (someP (cF (.int 1))) noP) (consA (vF 2) nilA))))) [some (.dict (eTab t)), some (tK (x :: tl)), some (.list (ms.map eMt)), some (.int 0), none] = some (.nx [some (.dict T1), some (tK (x :: tl)), some (.list (ms.map eMt)), some (.int (1 + a)), none]) := by
            simp [setE, opE, callTE, dvGet, sl_tail, q1]
          have a4 : (tabSetS 0 (vF 1) (vF 3)) [some (.dict T3), some (tK (x :: tl)), some (.list (ms.map eMt)), some (.int v), w4] = some (.nx [some (.dict (eTab (t ++ u1 ++ u2 ++ [(x :: tl, v)]))), some (tK (x :: tl)), some (.list (ms.map eMt)), some (.int v), w4]) := by
            simp [tabSetS, dvGet, hkey, hsz, hset]
          show runT 5 3 (B_filled (S_filled n)) (eTab t) [tK (x :: tl), .list (ms.map eMt)] = _
          unfold runT B_filled
          rw [if_pos (show [tK (x :: tl), PyData.list (ms.map eMt)].length + 1 = 3 from rfl), e_seqS, a1]
          simp only [e_seqS, e_setS, e_cF, Option.map_some, List.set_cons_succ, List.set_cons_zero, e_ifS, a2, a3, e_forS, e_seqA, e_vF, List.getElem?_cons_succ, List.getElem?_cons_zero, Option.join_some, Option.bind_some, h1, a4, e_retS, dvGet]
        · rw [show t ++ (u1 ++ u2 ++ [(x :: tl, v)]) = t ++ u1 ++ u2 ++ [(x :: tl, v)] by simp]
          exact h2.add hnew hok
        · rw [show t ++ (u1 ++ u2 ++ [(x :: tl, v)]) = t ++ u1 ++ u2 ++ [(x :: tl, v)] by simp]
          exact tGet_new hnew
        · intro S hS hSr hSt k hk
          rw [show t ++ (u1 ++ u2 ++ [(x :: tl, v)]) = t ++ u1 ++ u2 ++ [(x :: tl, v)] by simp, List.map_append] at hk
          rcases List.mem_append.mp hk with hk | hk
          · exact hall S hS (hS x tl hSr).1 (hS x tl hSr).2 hSt k hk
          · simp at hk; rw [hk]; exact hSr
theorem table_eq {ms : List Mt} (hms : ∀ m, m ∈ ms → MtOk m) {G : List MkD} (hG : G.length ≤ 10) : ∃ t : Tb, S_table [.list (G.map markD), .list (ms.map eMt)] = some (eTab t) ∧ Good ms t ∧ (tGet t G).isSome = true ∧ (∀ S : List MkD → Prop, Clo ms S → S G → ∀ k, k ∈ t.map (·.1) → S k) := by
  have g0 : Good ms ([] : Tb) := ⟨.nil, fun r v e => by cases e⟩
  obtain ⟨u, v, h1, h2, h3, h4⟩ := filled_eq hms hG 12 G [] (by omega) (List.Sublist.refl _) g0 (fun k hk => by cases hk)
  rw [List.nil_append] at h1 h2 h3 h4
  refine ⟨u, ?_, h2, by rw [h3]; rfl, fun S hS hG k hk => h4 S hS hG (fun k hk => by cases hk) k hk⟩
  have h1' : S_filled 12 [] [PyData.tuple (G.map markD), .list (ms.map eMt)] = some (.int v, eTab u) := h1
  unfold S_table runO B_table
  simp [seqO, tabNewS, exE, callTE, dvGet, h1', retO]
end Dat
open PySem PySem.Spec PyProof.Rows L2
namespace Dat
theorem wh_ex {C : Dv → Option Bool} {B : Bs} (Inv : Dv → Prop) (μ : Dv → Nat) (hc : ∀ ρ, Inv ρ → C ρ = some false ∨ (C ρ = some true ∧ ∃ ρ', B ρ = some (.nx ρ') ∧ Inv ρ' ∧ μ ρ' < μ ρ)) : ∀ (n : Nat) (ρ : Dv), Inv ρ → μ ρ < n → ∃ ρ', whGo C B n ρ = some (.nx ρ') ∧ Inv ρ' ∧ C ρ' = some false
  | 0, ρ, _, h => by omega
  | n + 1, ρ, i, h => by
    rcases hc ρ i with h0 | ⟨h1, ρ', h2, h3, h4⟩
    · exact ⟨ρ, by unfold whGo; rw [h0], i, h0⟩
    · obtain ⟨ρ2, g1, g2, g3⟩ := wh_ex Inv μ hc n ρ' h3 (by omega)
      refine ⟨ρ2, ?_, g2, g3⟩
      unfold whGo
      rw [h1]
      simp only [h2]
      exact g1
/-! ### cuts -/
def cutI {α : Type} (xs : List α) (lo hi : Option Int) : List α := (xs.drop (HT.sIx xs.length 0 lo)).take (HT.sIx xs.length xs.length hi - HT.sIx xs.length 0 lo)
theorem cut_map {α : Type} (f : α → PyData) (xs : List α) (lo hi : Option Int) : cutD (xs.map f) lo hi = (cutI xs lo hi).map f := by
  unfold cutD cutI
  rw [List.length_map, List.map_take, List.map_drop]
theorem cut_len {α : Type} (xs : List α) (lo hi : Option Int) : (cutI xs lo hi).length ≤ xs.length := by
  unfold cutI
  rw [List.length_take, List.length_drop]
  omega
@[simp] theorem e_slL {xs : List PyData} {lo hi : Option Int} : dSl (.list xs) lo hi = some (.list (cutD xs lo hi)) := rfl
def BGr : Bs := (seqS (setS 5 (f2 dMod (vF 3) (fL dLen (consA (vF 1) nilA)))) (seqS (appS 4 (f2 dIx (vF 1) (vF 5))) (seqS (setS 1 (f2 dAdd (slF dSl (vF 1) noP (someP (vF 5))) (slF dSl (vF 1) (someP (f2 dAdd (vF 5) (cF (.int 1)))) noP))) (setS 3 (f2 dDiv (vF 3) (cF (.int 7)))))))
theorem turnGr (v0 : Option PyData) (left : List MkD) (c : Int) (found : List MkD) (w2 w5 : Option PyData) (hl : left ≠ []) (h1 : left.length ≤ 100) (h2 : found.length ≤ 1000) :
    ∃ (left' : List MkD) (c' : Int) (x : MkD) (w5' : Option PyData), BGr [v0, some (.list (left.map markD)), w2, some (.int c), some (.list (found.map markD)), w5] = some (.nx [v0, some (.list (left'.map markD)), w2, some (.int c'), some (.list ((found ++ [x]).map markD)), w5']) ∧ ∃ l1 l2, left = l1 ++ x :: l2 ∧ left' = l1 ++ l2 := by
  have hpos : 0 < left.length := List.length_pos_iff.mpr hl
  have hpos' : (0 : Int) < left.length := by omega
  have hm0 := Int.emod_nonneg c (b := left.length) (by omega)
  have hm1 := Int.emod_lt_of_pos c hpos'
  obtain ⟨k, hk⟩ : ∃ k : Nat, c % (left.length : Int) = k := ⟨(c % (left.length : Int)).toNat, by omega⟩
  have hklt : k < left.length := by omega
  have hat : atI (left.map markD) (k : Int) = some (markD left[k]) := atI_nat (by simp [hklt])
  have hc1 : cutI left none (some (k : Int)) = left.take k := by
    unfold cutI
    rw [HT.sIx_nat, HT.sIx_none]
    simp
  have hc2 : cutI left (some ((k : Int) + 1)) none = left.drop (k + 1) := by
    unfold cutI
    rw [show ((k : Int) + 1) = ((k + 1 : Nat) : Int) by omega, HT.sIx_nat, HT.sIx_none]
    rw [Nat.min_eq_left (by omega)]
    rw [List.take_of_length_le (by rw [List.length_drop]; omega)]
  have hlen : (left.take k).length + (left.drop (k + 1)).length ≤ 16777216 := by simp; omega
  refine ⟨left.take k ++ left.drop (k + 1), c / 7, left[k], some (.int k), ?_, left.take k, left.drop (k + 1), by rw [← List.drop_eq_getElem_cons hklt, List.take_append_drop], rfl⟩
  unfold BGr
  simp only [e_seqS, e_setS, e_f2, e_vF, e_fL, e_consA, e_nilA, List.getElem?_cons_succ, List.getElem?_cons_zero, Option.join_some, Option.bind_some, Option.map_some, e_lenL, List.length_map, e_dMod, hpos', if_true, hk, List.set_cons_succ, List.set_cons_zero]
  simp [hat, show found.length < 16777216 by omega, cut_map, hc1, hc2]
  rw [if_pos (by omega)]
  simp
theorem marks_rg (t : Str) (n : Int) (hn : 0 ≤ n) {i : Nat} {ρ : Dv} (hi : i < ρ.length) : lcGo (tgN i) yesT (tupF (consA (cF (.str t)) (consA (vF i) nilA))) ρ (upFrom 0 n.toNat) = some (((List.range n.toNat).map fun k : Nat => (t, (k : Int))).map markD) := by
  rw [lc_range 0 _ (fun k : Nat => markD (t, (k : Int))) fun k hk => by simp [hi, markD]]
  simp
end Dat
open PySem PySem.Spec PyProof.Rows L2
namespace Dat
def cellI (ns : List Int) (i : Int) : Int := ns.getD i.toNat 0
theorem cell_at (ns : List Int) (i : Int) (hi : 0 ≤ i) : S__law_cell_at [.list (ns.map .int), .int i] = some (.int (cellI ns i)) := by
  unfold S__law_cell_at B__law_cell_at cellI
  obtain ⟨k, rfl⟩ : ∃ k : Nat, i = k := ⟨i.toNat, by omega⟩
  by_cases h : k < ns.length
  · have h' : (k : Int) < ns.length := by omega
    have h2 : atI (ns.map PyData.int) (k : Int) = some (.int (ns.getD k 0)) := atI_nat (by simp [List.getElem?_eq_getElem h, List.getD_eq_getElem?_getD])
    simp [h', h2]
  · have h' : ¬ (k : Int) < ns.length := by omega
    simp [h', List.getElem?_eq_none (Nat.le_of_not_lt h)]
theorem lgroup_eq (ns : List Int) : ∃ G : List MkD, S__law_group [.list (ns.map .int)] = some (.list (G.map markD)) ∧ G.length ≤ 7 ∧ G.Nodup := by
  generalize hz1 : cellI ns 0 % 5 = z1
  generalize hz2 : cellI ns 0 / 5 % 4 = z2
  have b1 : 0 ≤ z1 ∧ z1 ≤ 4 := by omega
  have b2 : 0 ≤ z2 ∧ z2 ≤ 3 := by omega
  generalize hA : (List.range z1.toNat).map (fun k : Nat => (("bank" : Str), (k : Int))) = A
  generalize hB : (List.range z2.toNat).map (fun k : Nat => (("book" : Str), (k : Int))) = Bk
  have lA : A.length ≤ 4 := by rw [← hA, List.length_map, List.length_range]; omega
  have lB : Bk.length ≤ 3 := by rw [← hB, List.length_map, List.length_range]; omega
  obtain ⟨ρ', h1, ⟨left, c, found, w5, h2, h3⟩, h4⟩ := wh_ex (C := asB (f2 dNe (vF 1) (lstF (few nilA)))) (B := BGr)
    (fun ρ => ∃ (left : List MkD) (c : Int) (found : List MkD) (w5 : Option PyData), ρ = [some (.list (ns.map .int)), some (.list (left.map markD)), none, some (.int c), some (.list (found.map markD)), w5] ∧ (left ++ found).Perm (A ++ Bk))
    (fun ρ => match dvGet ρ 1 with | some (.list l) => l.length | _ => 0) (fun ρ ⟨left, c, found, w5, hρ, hlen⟩ => by
      subst hρ
      have hp := hlen
      have hlen := hlen.length_eq
      simp only [List.length_append] at hlen
      cases hleft : left with
      | nil => left; simp
      | cons x r =>
        right
        obtain ⟨left', c', y, w5', g1, g2⟩ := turnGr (some (.list (ns.map .int))) left c found none w5 (by rw [hleft]; simp) (by omega) (by omega)
        obtain ⟨l1, l2, e1, e2⟩ := g2
        rw [hleft] at g1
        refine ⟨by simp, _, g1, ⟨left', c', found ++ [y], w5', rfl, ?_⟩, ?_⟩
        · refine List.Perm.trans ?_ hp
          rw [e1, e2]
          have q : (l1 ++ l2 ++ (found ++ [y])).Perm (y :: (l1 ++ l2 ++ found)) := by
            rw [← List.append_assoc]
            exact List.perm_append_singleton y _
          refine q.trans ?_
          rw [List.append_assoc, List.append_assoc]
          exact List.perm_middle.symm
        · rw [← hleft, e1, e2]
          simp) 100000 [some (.list (ns.map .int)), some (.list ((A ++ Bk).map markD)), none, some (.int (cellI ns 1)), some (.list []), none] ⟨A ++ Bk, cellI ns 1, [], none, rfl, by rw [List.append_nil]⟩ (by simp; omega)
  subst h2
  have hleft : left = [] := by
    cases left with
    | nil => rfl
    | cons x r => simp at h4
  subst hleft
  rw [List.nil_append] at h3
  have ndA : (A ++ Bk).Nodup := by
    rw [List.nodup_append, ← hA, ← hB]
    refine ⟨(List.nodup_range).map (f := fun k : Nat => (("bank" : Str), (k : Int))) fun a b h => by simp; omega, (List.nodup_range).map (f := fun k : Nat => (("book" : Str), (k : Int))) fun a b h => by simp; omega, fun a ha b hb e => ?_⟩
    obtain ⟨i, _, rfl⟩ := List.mem_map.mp ha
    obtain ⟨j, _, rfl⟩ := List.mem_map.mp hb
    simp at e
    exact absurd e.1 (by decide +kernel)
  refine ⟨found, ?_, by have := h3.length_eq; rw [List.length_append] at this; omega, h3.nodup_iff.mpr ndA⟩
  unfold BGr at h1
  have hl : A.length + Bk.length ≤ 16777216 := by omega
  have r1 : z1 ≤ 16777216 ∧ -16777216 ≤ z1 := by omega
  have r2 : z2 ≤ 16777216 ∧ -16777216 ≤ z2 := by omega
  unfold S__law_group B__law_group
  have c0 : S__law_cell_at [.list (ns.map .int), .int 0] = _ := cell_at ns 0 (by omega)
  have c1 : S__law_cell_at [.list (ns.map .int), .int 1] = _ := cell_at ns 1 (by omega)
  rw [List.map_append] at h1
  simp [c0, c1, hz1, hz2, r1, r2, marks_rg _ _ b1.1, marks_rg _ _ b2.1, hA, hB, hl, -List.map_map]
  rw [h1]
  rfl
end Dat
open PySem PySem.Spec PyProof.Rows L2
namespace Dat
/-! ### the most marks that can be in matches -/
def Gd (m : Mt) : Prop := (marksM m).Nodup ∧ marksM m ≠ []
def mst : List Mt → List MkD → Nat
  | [], _ => 0
  | m :: ms, r => max (mst ms r) (if ((marksM m).all fun y => decide (y ∈ r)) = true then (marksM m).length + mst ms (wo r m) else 0)
def allM (S : List Mt) : List MkD := S.flatMap marksM
structure Fam (ms : List Mt) (r : List MkD) (S : List Mt) : Prop where
  mem : ∀ m, m ∈ S → m ∈ ms
  nd : (allM S).Nodup
  sub : ∀ y, y ∈ allM S → y ∈ r
theorem mem_wo {r : List MkD} {m : Mt} {y : MkD} : y ∈ wo r m ↔ y ∈ r ∧ y ∉ marksM m := by
  unfold wo
  rw [List.mem_filter]
  simp
theorem allM_cons (m : Mt) (S : List Mt) : allM (m :: S) = marksM m ++ allM S := by simp [allM]
theorem allM_mem {S : List Mt} {y : MkD} : y ∈ allM S ↔ ∃ m, m ∈ S ∧ y ∈ marksM m := by simp [allM]
theorem Fam.add {ms : List Mt} {r : List MkD} {S : List Mt} {m : Mt} (f : Fam ms (wo r m) S) (hm : m ∈ ms) (g : Gd m) (hs : ∀ y, y ∈ marksM m → y ∈ r) : Fam ms r (m :: S) := by
  refine ⟨fun m' h => ?_, ?_, fun y hy => ?_⟩
  · rcases List.mem_cons.mp h with rfl | h
    · exact hm
    · exact f.mem m' h
  · rw [allM_cons, List.nodup_append]
    refine ⟨g.1, f.nd, fun a ha b hb e => ?_⟩
    subst e
    exact (mem_wo.mp (f.sub a hb)).2 ha
  · rw [allM_cons] at hy
    rcases List.mem_append.mp hy with h | h
    · exact hs y h
    · exact (mem_wo.mp (f.sub y h)).1
theorem mst_at : ∀ (ms : List Mt) (r : List MkD), (∀ m, m ∈ ms → Gd m) → ∃ S, Fam ms r S ∧ (allM S).length = mst ms r
  | [], r, _ => ⟨[], ⟨by simp, by simp [allM], by simp [allM]⟩, rfl⟩
  | m :: ms, r, g => by
    have up : ∀ {r' : List MkD} {S : List Mt}, Fam ms r' S → Fam (m :: ms) r' S := fun f => ⟨fun m' h => List.mem_cons_of_mem _ (f.mem m' h), f.nd, f.sub⟩
    have g' : ∀ m', m' ∈ ms → Gd m' := fun m' h => g m' (List.mem_cons_of_mem _ h)
    unfold mst
    by_cases c : ((marksM m).all fun y => decide (y ∈ r)) = true
    · rw [if_pos c]
      rcases Nat.le_total (mst ms r) ((marksM m).length + mst ms (wo r m)) with h | h
      · obtain ⟨S, f, e⟩ := mst_at ms (wo r m) g'
        refine ⟨m :: S, (up f).add List.mem_cons_self (g m List.mem_cons_self) fun y hy => by simpa using List.all_eq_true.mp c y hy, ?_⟩
        rw [allM_cons, List.length_append, e, Nat.max_eq_right h]
      · obtain ⟨S, f, e⟩ := mst_at ms r g'
        exact ⟨S, up f, by rw [e, Nat.max_eq_left h]⟩
    · rw [if_neg c]
      obtain ⟨S, f, e⟩ := mst_at ms r g'
      exact ⟨S, up f, by rw [e, Nat.max_eq_left (Nat.zero_le _)]⟩
theorem allM_perm {S T : List Mt} (p : S.Perm T) : (allM S).Perm (allM T) := p.flatMap_right _
/-- one of a family is taken out -/
theorem Fam.out {ms : List Mt} {r : List MkD} {S : List Mt} {m : Mt} (f : Fam ms r S) (hm : m ∈ S) (g : Gd m) : Fam ms (wo r m) (S.erase m) ∧ (allM S).length = (marksM m).length + (allM (S.erase m)).length ∧ (∀ y, y ∈ marksM m → y ∈ r) ∧ m ∉ S.erase m := by
  have p := List.perm_cons_erase hm
  have q := allM_perm p
  rw [allM_cons] at q
  have nd := q.nodup_iff.mp f.nd
  rw [List.nodup_append] at nd
  obtain ⟨n1, n2, n3⟩ := nd
  refine ⟨⟨fun m' h => f.mem m' (List.mem_of_mem_erase h), n2, fun y hy => mem_wo.mpr ⟨f.sub y (q.mem_iff.mpr (List.mem_append.mpr (.inr hy))), fun z => n3 y z y hy rfl⟩⟩, ?_, fun y hy => f.sub y (q.mem_iff.mpr (List.mem_append.mpr (.inl hy))), fun z => ?_⟩
  · rw [q.length_eq, List.length_append]
  · obtain ⟨y, hy⟩ := List.exists_mem_of_ne_nil _ g.2
    exact n3 y hy y (allM_mem.mpr ⟨m, z, hy⟩) rfl
theorem mst_ub : ∀ (ms : List Mt) (r : List MkD) (S : List Mt), (∀ m, m ∈ ms → Gd m) → Fam ms r S → (allM S).length ≤ mst ms r
  | [], r, S, _, f => by
    cases S with
    | nil => simp [allM, mst]
    | cons m S => exact nomatch f.mem m List.mem_cons_self
  | m :: ms, r, S, g, f => by
    have g' : ∀ m', m' ∈ ms → Gd m' := fun m' h => g m' (List.mem_cons_of_mem _ h)
    unfold mst
    by_cases hm : m ∈ S
    · obtain ⟨f2, e, hs, hn⟩ := f.out hm (g m List.mem_cons_self)
      have c : ((marksM m).all fun y => decide (y ∈ r)) = true := List.all_eq_true.mpr fun y hy => by simpa using hs y hy
      rw [if_pos c]
      have f3 : Fam ms (wo r m) (S.erase m) := ⟨fun m' h => by
        rcases List.mem_cons.mp (f2.mem m' h) with rfl | h'
        · exact absurd h hn
        · exact h', f2.nd, f2.sub⟩
      have := mst_ub ms (wo r m) (S.erase m) g' f3
      exact Nat.le_trans (by omega) (Nat.le_max_right _ _)
    · have f3 : Fam ms r S := ⟨fun m' h => by
        rcases List.mem_cons.mp (f.mem m' h) with rfl | h'
        · exact absurd h hm
        · exact h', f.nd, f.sub⟩
      exact Nat.le_trans (mst_ub ms r S g' f3) (Nat.le_max_left _ _)
theorem opn_cons {x : MkD} {tl : List MkD} {m : Mt} : opn (x :: tl) m = true ↔ x ∈ marksM m ∧ ∀ y, y ∈ marksM m → y ∈ x :: tl := by
  unfold opn
  simp only [Bool.and_eq_true, decide_eq_true_eq, List.all_eq_true]
theorem opn_sub {r : List MkD} {m : Mt} (h : opn r m = true) : ∀ y, y ∈ marksM m → y ∈ r := by
  cases r with
  | nil => simp [opn] at h
  | cons x tl => exact (opn_cons.mp h).2
theorem mst_tl {ms : List Mt} (g : ∀ m, m ∈ ms → Gd m) (x : MkD) (tl : List MkD) : mst ms tl ≤ mst ms (x :: tl) := by
  obtain ⟨S, f, e⟩ := mst_at ms tl g
  rw [← e]
  exact mst_ub ms _ S g ⟨f.mem, f.nd, fun y hy => List.mem_cons_of_mem _ (f.sub y hy)⟩
theorem mst_wo {ms : List Mt} (g : ∀ m, m ∈ ms → Gd m) {r : List MkD} {m : Mt} (hm : m ∈ ms) (h : ∀ y, y ∈ marksM m → y ∈ r) : (marksM m).length + mst ms (wo r m) ≤ mst ms r := by
  obtain ⟨S, f, e⟩ := mst_at ms (wo r m) g
  rw [← e]
  have := mst_ub ms r (m :: S) g (f.add hm (g m hm) h)
  rw [allM_cons, List.length_append] at this
  exact this
theorem mst_one {ms : List Mt} (g : ∀ m, m ∈ ms → Gd m) (x : MkD) (tl : List MkD) : mst ms (x :: tl) ≤ mst ms tl ∨ ∃ m, m ∈ ms ∧ opn (x :: tl) m = true ∧ mst ms (x :: tl) ≤ (marksM m).length + mst ms (wo (x :: tl) m) := by
  obtain ⟨S, f, e⟩ := mst_at ms (x :: tl) g
  by_cases h : x ∈ allM S
  · obtain ⟨m, hm, hx⟩ := allM_mem.mp h
    obtain ⟨f2, e2, hs, _⟩ := f.out hm (g m (f.mem m hm))
    have := mst_ub ms _ _ g f2
    exact .inr ⟨m, f.mem m hm, opn_cons.mpr ⟨hx, hs⟩, by omega⟩
  · refine .inl ?_
    rw [← e]
    refine mst_ub ms tl S g ⟨f.mem, f.nd, fun y hy => ?_⟩
    rcases List.mem_cons.mp (f.sub y hy) with rfl | h'
    · exact absurd hy h
    · exact h'
/-- taking out a match of a rest -/
theorem part_len : ∀ (r : List MkD) (m : Mt), (wo r m).length + (r.filter fun x => decide (x ∈ marksM m)).length = r.length
  | [], m => rfl
  | x :: r, m => by
    have ih := part_len r m
    unfold wo at *
    by_cases h : x ∈ marksM m
    · rw [List.filter_cons_of_neg (by simp [h]), List.filter_cons_of_pos (by simp [h])]
      simp only [List.length_cons]; omega
    · rw [List.filter_cons_of_pos (by simp [h]), List.filter_cons_of_neg (by simp [h])]
      simp only [List.length_cons]; omega
theorem wo_len {r : List MkD} {m : Mt} (hr : r.Nodup) (g : (marksM m).Nodup) (h : ∀ y, y ∈ marksM m → y ∈ r) : (wo r m).length + (marksM m).length = r.length := by
  have h1 : (r.filter fun x => decide (x ∈ marksM m)).Perm (marksM m) := by
    refine (List.perm_ext_iff_of_nodup (hr.filter _) g).mpr fun y => ?_
    rw [List.mem_filter]
    simp only [decide_eq_true_eq]
    exact ⟨fun z => z.2, fun z => ⟨h y z, z⟩⟩
  have := part_len r m
  rw [h1.length_eq] at this
  exact this
theorem wo_len_iff {r : List MkD} {m : Mt} (hr : r.Nodup) (g : (marksM m).Nodup) : (wo r m).length + (marksM m).length = r.length ↔ ∀ y, y ∈ marksM m → y ∈ r := by
  refine ⟨fun e y hy => ?_, wo_len hr g⟩
  have h1 := part_len r m
  have h2 : (r.filter fun x => decide (x ∈ marksM m)).length = (marksM m).length := by omega
  have nd : (r.filter fun x => decide (x ∈ marksM m)).Nodup := hr.filter _
  have sub : ∀ z, z ∈ (r.filter fun x => decide (x ∈ marksM m)) → z ∈ marksM m := fun z hz => by
    have := (List.mem_filter.mp hz).2
    simpa using this
  exact Classical.byContradiction fun hn => by
    have hny : y ∉ (r.filter fun x => decide (x ∈ marksM m)) := fun z => hn (List.mem_filter.mp z).1
    have nd2 : (y :: (r.filter fun x => decide (x ∈ marksM m))).Nodup := List.nodup_cons.mpr ⟨hny, nd⟩
    have := nd2.length_le_of_subset (fun z hz => by
      rcases List.mem_cons.mp hz with rfl | hz
      · exact hy
      · exact sub z hz : (y :: (r.filter fun x => decide (x ∈ marksM m))) ⊆ marksM m)
    simp only [List.length_cons] at this
    omega
theorem wo_nodup {r : List MkD} {m : Mt} (hr : r.Nodup) : (wo r m).Nodup := hr.filter _
theorem mst_le {ms : List Mt} (g : ∀ m, m ∈ ms → Gd m) (r : List MkD) : mst ms r ≤ r.length := by
  obtain ⟨S, f, e⟩ := mst_at ms r g
  rw [← e]
  exact f.nd.length_le_of_subset f.sub
/-- the least that is left -/
def lv (ms : List Mt) (r : List MkD) : Nat := r.length - mst ms r
theorem lv_wo {ms : List Mt} (g : ∀ m, m ∈ ms → Gd m) {r : List MkD} (hr : r.Nodup) {m : Mt} (hm : m ∈ ms) (h : ∀ y, y ∈ marksM m → y ∈ r) : lv ms r ≤ lv ms (wo r m) ∧ (lv ms (wo r m) = lv ms r ↔ mst ms r = (marksM m).length + mst ms (wo r m)) := by
  have h1 := wo_len hr (g m hm).1 h
  have h2 := mst_wo g hm h
  have h3 := mst_le g r
  have h4 := mst_le g (wo r m)
  unfold lv
  omega
theorem lv_tl {ms : List Mt} (g : ∀ m, m ∈ ms → Gd m) (x : MkD) (tl : List MkD) : lv ms (x :: tl) ≤ 1 + lv ms tl := by
  have h1 := mst_tl g x tl
  have h3 := mst_le g tl
  unfold lv
  simp only [List.length_cons]
  omega
theorem lv_one {ms : List Mt} (g : ∀ m, m ∈ ms → Gd m) {x : MkD} {tl : List MkD} (hr : (x :: tl).Nodup) : lv ms (x :: tl) = 1 + lv ms tl ∨ ∃ m, m ∈ ms ∧ opn (x :: tl) m = true ∧ lv ms (wo (x :: tl) m) = lv ms (x :: tl) := by
  have h3 := mst_le g tl
  rcases mst_one g x tl with h | ⟨m, hm, ho, h⟩
  · have h1 := mst_tl g x tl
    refine .inl ?_
    unfold lv
    simp only [List.length_cons]
    omega
  · exact .inr ⟨m, hm, ho, (lv_wo g hr hm (opn_sub ho)).2.mpr (Nat.le_antisymm h (mst_wo g hm (opn_sub ho)))⟩
/-! ### the matches picked -/
def nxt (ms : List Mt) (r : List MkD) : Option Mt := ms.find? fun m => opn r m && decide (lv ms (wo r m) = lv ms r)
theorem wo_short {r : List MkD} {m : Mt} (h : opn r m = true) : (wo r m).length < r.length := by
  cases r with
  | nil => simp [opn] at h
  | cons x tl =>
    have hx := (opn_cons.mp h).1
    unfold wo
    rw [List.filter_cons_of_neg (by simp [hx])]
    have := List.length_filter_le (fun x => !decide (x ∈ marksM m)) tl
    simp only [List.length_cons]
    omega
theorem nxt_some {ms : List Mt} {r : List MkD} {m : Mt} (h : nxt ms r = some m) : m ∈ ms ∧ opn r m = true ∧ lv ms (wo r m) = lv ms r := by
  have h1 := List.mem_of_find?_eq_some h
  have h2 := List.find?_some h
  simp only [Bool.and_eq_true, decide_eq_true_eq] at h2
  exact ⟨h1, h2.1, h2.2⟩
def pks (ms : List Mt) : Nat → List MkD → List Mt
  | 0, _ => []
  | _ + 1, [] => []
  | n + 1, x :: tl => match nxt ms (x :: tl) with
    | none => pks ms n tl
    | some m => m :: pks ms n (wo (x :: tl) m)
theorem pks_fuel (ms : List Mt) : ∀ (n k : Nat) (r : List MkD), r.length ≤ n → r.length ≤ k → pks ms n r = pks ms k r
  | 0, k, r, h, h' => by
    have : r = [] := List.eq_nil_of_length_eq_zero (by omega)
    subst this
    cases k <;> rfl
  | n + 1, k, [], h, h' => by cases k <;> rfl
  | n + 1, k, x :: tl, h, h' => by
    cases k with
    | zero => simp at h'
    | succ k =>
      simp only [List.length_cons] at h h'
      unfold pks
      cases e : nxt ms (x :: tl) with
      | none => exact pks_fuel ms n k tl (by omega) (by omega)
      | some m =>
        have hw := wo_short (nxt_some e).2.1
        simp only [List.length_cons] at hw
        show m :: pks ms n (wo (x :: tl) m) = m :: pks ms k (wo (x :: tl) m)
        rw [pks_fuel ms n k (wo (x :: tl) m) (by omega) (by omega)]
/-- what is picked of a rest -/
def pk (ms : List Mt) (r : List MkD) : List Mt := pks ms r.length r
theorem pk_nil (ms : List Mt) : pk ms [] = [] := rfl
theorem pk_none {ms : List Mt} {x : MkD} {tl : List MkD} (h : nxt ms (x :: tl) = none) : pk ms (x :: tl) = pk ms tl := by
  unfold pk
  simp only [List.length_cons, pks, h]
theorem pk_some {ms : List Mt} {x : MkD} {tl : List MkD} {m : Mt} (h : nxt ms (x :: tl) = some m) : pk ms (x :: tl) = m :: pk ms (wo (x :: tl) m) := by
  unfold pk
  simp only [List.length_cons, pks, h]
  have hw := wo_short (nxt_some h).2.1
  simp only [List.length_cons] at hw
  rw [pks_fuel ms tl.length (wo (x :: tl) m).length _ (by omega) (Nat.le_refl _)]
theorem pk_fam {ms : List Mt} (g : ∀ m, m ∈ ms → Gd m) : ∀ (n : Nat) (r : List MkD), r.length ≤ n → r.Nodup → Fam ms r (pk ms r) ∧ (allM (pk ms r)).length = mst ms r
  | n, [], _, _ => by
    refine ⟨⟨by simp [pk_nil], by simp [pk_nil, allM], by simp [pk_nil, allM]⟩, ?_⟩
    have := mst_le g []
    simp only [pk_nil, allM, List.flatMap_nil, List.length_nil] at this ⊢
    omega
  | 0, x :: tl, h, _ => by simp at h
  | n + 1, x :: tl, h, hr => by
    simp only [List.length_cons] at h
    cases e : nxt ms (x :: tl) with
    | none =>
      obtain ⟨f, l⟩ := pk_fam g n tl (by omega) (List.nodup_cons.mp hr).2
      rw [pk_none e]
      refine ⟨⟨f.mem, f.nd, fun y hy => List.mem_cons_of_mem _ (f.sub y hy)⟩, ?_⟩
      rw [l]
      refine Nat.le_antisymm (mst_tl g x tl) ?_
      rcases lv_one g hr with h1 | ⟨m, hm, ho, h1⟩
      · have h3 := mst_le g tl
        have h4 := mst_le g (x :: tl)
        unfold lv at h1
        simp only [List.length_cons] at h1 h4
        omega
      · have := List.find?_eq_none.mp e m hm
        simp [ho, h1] at this
    | some m =>
      obtain ⟨hm, ho, h1⟩ := nxt_some e
      have hw := wo_short ho
      simp only [List.length_cons] at hw
      obtain ⟨f, l⟩ := pk_fam g n (wo (x :: tl) m) (by omega) (wo_nodup hr)
      rw [pk_some e]
      refine ⟨f.add hm (g m hm) (opn_sub ho), ?_⟩
      rw [allM_cons, List.length_append, l]
      exact ((lv_wo g hr hm (opn_sub ho)).2.mp h1).symm
theorem marks_side (s : Str) (g : List MkD) {i : Nat} {ρ : Dv} (hi : i < ρ.length) :
    lcGo (tgN i) (asB (f2 dEq (f2 dIx (vF i) (cF (.int 0))) (cF (.str s)))) (f2 dIx (vF i) (cF (.int 1))) ρ (g.map markD) = some (eI ((g.filter fun m => decide (m.1 = s)).map (·.2))) := by
  rw [lc_filter markD (fun m => PyData.int m.2) (fun m => decide (m.1 = s)) g fun m hm => ⟨ρ.set i (some (markD m)), rfl, ?_, fun _ => ?_⟩]
  · simp [eI]
  · simp [hi]
    simp [markD]
  · simp [hi]
    simp [markD]
theorem insU_len {x : Int} : ∀ {ys : List Int}, (insU x ys).length ≤ ys.length + 1
  | [] => by simp [insU]
  | y :: r => by
    have ih := insU_len (x := x) (ys := r)
    unfold insU
    split
    · simp
    · split <;> simp <;> omega
theorem ssetI_len : ∀ ns : List Int, (ssetI ns).length ≤ ns.length
  | [] => Nat.le_refl _
  | n :: ns => by
    have h1 := insU_len (x := n) (ys := ssetI ns)
    have h2 := ssetI_len ns
    show (insU n (ssetI ns)).length ≤ _
    simp only [List.length_cons]
    omega
def EPk (i v : Nat) : Fd := f2 dIx (vF v) (f2 dMod (f2 dAdd (f2 dDiv (vF 0) (cF (.int 2))) (f2 dMul (vF i) (f2 dAdd (cF (.int 1)) (f2 dMod (f2 dDiv (vF 0) (cF (.int 12))) (cF (.int 3)))))) (fL dLen (consA (vF v) nilA)))
theorem pick_one (os : List Int) (hos : os ≠ []) (c kk : Int) {i v : Nat} {ρ : Dv} (hv : v ≠ i) (h0i : i ≠ 0) (hi : i < ρ.length) (e0 : ρ[0]? = some (some (.int c))) (ev : ρ[v]? = some (some (.list (eI os)))) :
    (tgN i (.int kk) ρ).bind (EPk i v) = some (.int (os.getD ((c / 2 + kk * (1 + c / 12 % 3)) % os.length).toNat 0)) := by
  have hpos : (0 : Int) < os.length := by have := List.length_pos_iff.mpr hos; omega
  have hm0 := Int.emod_nonneg (c / 2 + kk * (1 + c / 12 % 3)) (b := os.length) (by omega)
  have hm1 := Int.emod_lt_of_pos (c / 2 + kk * (1 + c / 12 % 3)) hpos
  have hb : (-(2 ^ 64) < 1 + c / 12 % 3 ∧ 1 + c / 12 % 3 < 2 ^ 64) := by omega
  have hmul : dMul (.int kk) (.int (1 + c / 12 % 3)) = some (.int (kk * (1 + c / 12 % 3))) := by
    rw [e_dMul, if_pos (.inr hb)]
  have hln : dLen [PyData.list (eI os)] = some (.int os.length) := by simp [eI]
  generalize hq : (c / 2 + kk * (1 + c / 12 % 3)) % (os.length : Int) = q at hm0 hm1
  obtain ⟨j, rfl⟩ : ∃ j : Nat, q = j := ⟨q.toNat, by omega⟩
  have hj : j < os.length := by omega
  have hat : atI (eI os) (j : Int) = some (.int os[j]) := atI_nat (by simp [eI, hj])
  have s0 : (ρ.set i (some (.int kk)))[0]? = some (some (.int c)) := by rw [List.getElem?_set_ne h0i]; exact e0
  have s1 : (ρ.set i (some (.int kk)))[v]? = some (some (.list (eI os))) := by rw [List.getElem?_set_ne (Ne.symm hv)]; exact ev
  have s2 : (ρ.set i (some (.int kk)))[i]? = some (some (.int kk)) := by simp [hi]
  unfold EPk
  simp only [e_tgN, Option.bind_some, e_f2, e_vF, e_cF, e_fL, e_consA, e_nilA, s0, s1, s2, Option.join_some, Option.map_some, e_dDiv, e_dMod, e_dAdd, hmul, hln]
  simp [hpos, List.length_pos_iff.mpr hos, hq, hat, hj, hmul, -e_dMul]
theorem pick_many (os : List Int) (hos : os ≠ []) (c cnt : Int) (h3 : cnt ≤ 3) {i v : Nat} {ρ : Dv} (hv : v ≠ i) (h0i : i ≠ 0) (hi : i < ρ.length) (e0 : ρ[0]? = some (some (.int c))) (ev : ρ[v]? = some (some (.list (eI os)))) :
    ∃ ms : List Int, lcGo (tgN i) yesT (EPk i v) ρ (upFrom 0 cnt.toNat) = some (eI ms) ∧ ms.length ≤ 3 := by
  refine ⟨(List.range cnt.toNat).map fun k : Nat => os.getD ((c / 2 + (0 + (k : Int)) * (1 + c / 12 % 3)) % os.length).toNat 0, ?_, by simp; omega⟩
  rw [lc_range 0 _ (fun k : Nat => .int (os.getD ((c / 2 + (0 + (k : Int)) * (1 + c / 12 % 3)) % os.length).toNat 0)) fun k hk => pick_one os hos c (0 + (k : Int)) hv h0i hi e0 ev]
  rw [eI, List.map_map]
  rfl
/-- a match of few places, of marks all unlike, of some -/
def Ok6 (m : Mt) : Prop := MtOk m ∧ Gd m
theorem side_ne : (("bank" : Str) = "book") = False := by simp; decide +kernel
theorem gd_of {xs ys : List Int} (h1 : xs.Nodup) (h2 : ys.Nodup) (h3 : xs ≠ [] ∨ ys ≠ []) : Gd (xs, ys) := by
  unfold Gd marksM marksI
  refine ⟨?_, ?_⟩
  · rw [List.nodup_append]
    refine ⟨h1.map (f := fun p => (("bank" : Str), p)) fun a b h => by simpa using h, h2.map (f := fun p => (("book" : Str), p)) fun a b h => by simpa using h, fun a ha b hb e => ?_⟩
    obtain ⟨i, _, rfl⟩ := List.mem_map.mp ha
    obtain ⟨j, _, rfl⟩ := List.mem_map.mp hb
    simp at e
    exact absurd e.1 (by decide +kernel)
  · simp only [ne_eq, List.append_eq_nil_iff, List.map_eq_nil_iff, not_and]
    intro z
    rcases h3 with h3 | h3
    · exact absurd z h3
    · exact h3
theorem sset_nodup (ms : List Int) : (ssetI ms).Nodup := (ssetI_sorted ms).imp fun {a b} h => by omega
theorem cnt_at (c : Int) : ∃ n : Int, atI [PyData.int 1, .int 1, .int 2, .int 3] (c / 2 % 4) = some (.int n) ∧ 1 ≤ n ∧ n ≤ 3 := by
  have h : c / 2 % 4 = 0 ∨ c / 2 % 4 = 1 ∨ c / 2 % 4 = 2 ∨ c / 2 % 4 = 3 := by omega
  rcases h with h | h | h | h <;> rw [h]
  · exact ⟨1, at0, by decide, by decide⟩
  · exact ⟨1, at1, by decide, by decide⟩
  · exact ⟨2, at2, by decide, by decide⟩
  · exact ⟨3, atI_nat (j := 3) rfl, by decide, by decide⟩
theorem one_at (os : List Int) (hos : os ≠ []) (c : Int) : ∃ p : Int, atI (eI os) (c / 36 % (os.length : Int)) = some (.int p) := by
  have hpos : (0 : Int) < os.length := by have := List.length_pos_iff.mpr hos; omega
  have hm0 := Int.emod_nonneg (c / 36) (b := os.length) (by omega)
  have hm1 := Int.emod_lt_of_pos (c / 36) hpos
  generalize c / 36 % (os.length : Int) = q at hm0 hm1
  obtain ⟨j, rfl⟩ : ∃ j : Nat, q = j := ⟨q.toNat, by omega⟩
  have hj : j < os.length := by omega
  exact ⟨os[j], atI_nat (by simp [eI, hj])⟩
theorem ss_ints {F : Fd} {ρ : Dv} {ms : List Int} (h : F ρ = some (.list (eI ms))) (hl : ms.length < 64) : ssF F ρ = some (eI (ssetI ms)) := by
  unfold ssF
  rw [h]
  simp only [intsD_map, hl, if_true]
def encO : Option Mt → PyData
  | none => .none
  | some m => eMt m
theorem lmatch_eq (c : Int) (G : List MkD) : ∃ o : Option Mt, S__law_match [.int c, .list (G.map markD)] = some (encO o) ∧ ∀ m, o = some m → Ok6 m := by
  generalize hA : ((G.filter fun m => decide (m.1 = ("bank" : Str))).map (·.2)).mergeSort (leOf ltII) = A
  generalize hB : ((G.filter fun m => decide (m.1 = ("book" : Str))).map (·.2)).mergeSort (leOf ltII) = Bk
  have sA := sort_intsE ((G.filter fun m => decide (m.1 = ("bank" : Str))).map (·.2))
  have sB := sort_intsE ((G.filter fun m => decide (m.1 = ("book" : Str))).map (·.2))
  rw [hA] at sA
  rw [hB] at sB
  have pre : ∀ r, T__law_match_2 [some (.int c), some (.list (G.map markD)), some (.list (eI A)), none, some (.list (eI Bk)), none, none, none] = some r → B__law_match [some (.int c), some (.list (G.map markD)), none, none, none, none, none, none] = some r := by
    intro r hr
    unfold B__law_match T__law_match_1
    simp only [e_seqS, e_setS, e_fL, e_consA, e_nilA, e_lstF, e_lcF, e_seqA, e_vF, e_wipeC, e_wipeN, List.getElem?_cons_succ, List.getElem?_cons_zero, Option.join_some, Option.bind_some, List.set_cons_succ, List.set_cons_zero]
    rw [marks_side "bank" G (by simp)]
    simp only [Option.map_some, Option.bind_some, sA, List.set_cons_succ, List.set_cons_zero, List.getElem?_cons_succ, List.getElem?_cons_zero, Option.join_some]
    rw [marks_side "book" G (by simp)]
    simp only [Option.map_some, Option.bind_some, sB, List.set_cons_succ, List.set_cons_zero, hr]
  have fin : ∃ o : Option Mt, (∃ ρ', T__law_match_2 [some (.int c), some (.list (G.map markD)), some (.list (eI A)), none, some (.list (eI Bk)), none, none, none] = some (.ret (encO o) ρ')) ∧ ∀ m, o = some m → Ok6 m := by
    unfold T__law_match_2
    cases hA0 : A with
    | nil => exact ⟨none, ⟨[some (.int c), some (.list (G.map markD)), some (.list (eI [])), none, some (.list (eI Bk)), none, none, none], by simp [eI, encO]⟩, fun m z => nomatch z⟩
    | cons a0 ar =>
      cases hB0 : Bk with
      | nil => exact ⟨none, ⟨[some (.int c), some (.list (G.map markD)), some (.list (eI (a0 :: ar))), none, some (.list (eI [])), none, none, none], by simp [eI, encO]⟩, fun m z => nomatch z⟩
      | cons b0 br =>
        rw [← hA0, ← hB0]
        have hAn : A ≠ [] := by rw [hA0]; simp
        have hBn : Bk ≠ [] := by rw [hB0]; simp
        have eA : (eI A).isEmpty = false := by rw [hA0]; rfl
        have eB : (eI Bk).isEmpty = false := by rw [hB0]; rfl
        obtain ⟨cnt, hc, h1, h3⟩ := cnt_at c
        have lA : (0 : Int) < A.length := by have := List.length_pos_iff.mpr hAn; omega
        have lB : (0 : Int) < Bk.length := by have := List.length_pos_iff.mpr hBn; omega
        have r1 : cnt ≤ 16777216 ∧ -16777216 ≤ cnt := by omega
        have dA : dLen [PyData.list (eI A)] = some (.int A.length) := by simp [eI]
        have dB : dLen [PyData.list (eI Bk)] = some (.int Bk.length) := by simp [eI]
        obtain ⟨pA, hpA⟩ := one_at A hAn (c / 8)
        obtain ⟨pB, hpB⟩ := one_at Bk hBn (c / 8)
        unfold T__law_match_3 T__law_match_4 T__law_match_5
        by_cases h2 : c / 8 % 2 = 0
        · obtain ⟨ms, hms, lms⟩ := pick_many Bk hBn (c / 8) cnt h3 (i := 7) (v := 4) (ρ := [some (.int (c / 8)), some (.list (G.map markD)), some (.list (eI A)), none, some (.list (eI Bk)), some (.int cnt), none, none]) (by decide) (by decide) (by simp) rfl rfl
          unfold EPk at hms
          have hss := ss_ints (F := lstF (lcF (fL dRange (exN 1 (consA (vF 5) nilA))) [7] (tgN 7) yesT (f2 dIx (vF 4) (f2 dMod (f2 dAdd (f2 dDiv (vF 0) (cF (.int 2))) (f2 dMul (vF 7) (f2 dAdd (cF (.int 1)) (f2 dMod (f2 dDiv (vF 0) (cF (.int 12))) (cF (.int 3)))))) (fL dLen (consA (vF 4) nilA)))))) (ρ := [some (.int (c / 8)), some (.list (G.map markD)), some (.list (eI A)), none, some (.list (eI Bk)), some (.int cnt), none, none]) (ms := ms) (by
            simp [r1, hms]) (by omega)
          have hl := ssetI_len ms
          refine ⟨some ([pA], ssetI ms), ⟨[some (.int (c / 8)), some (.list (G.map markD)), some (.list (eI A)), none, some (.list (eI Bk)), some (.int cnt), some (.list (eI (ssetI ms))), none], ?_⟩, fun m e => by cases e; exact ⟨⟨by simp, by show (ssetI ms).length ≤ 100; omega⟩, gd_of (by simp) (sset_nodup ms) (.inl (by simp))⟩⟩
          simp [eA, eB, hc, h2, hss, dA, lA, hpA, List.length_pos_iff.mpr hAn, encO, eMt, eI]
        · obtain ⟨ms, hms, lms⟩ := pick_many A hAn (c / 8) cnt h3 (i := 7) (v := 2) (ρ := [some (.int (c / 8)), some (.list (G.map markD)), some (.list (eI A)), none, some (.list (eI Bk)), some (.int cnt), none, none]) (by decide) (by decide) (by simp) rfl rfl
          unfold EPk at hms
          have hss := ss_ints (F := lstF (lcF (fL dRange (exN 1 (consA (vF 5) nilA))) [7] (tgN 7) yesT (f2 dIx (vF 2) (f2 dMod (f2 dAdd (f2 dDiv (vF 0) (cF (.int 2))) (f2 dMul (vF 7) (f2 dAdd (cF (.int 1)) (f2 dMod (f2 dDiv (vF 0) (cF (.int 12))) (cF (.int 3)))))) (fL dLen (consA (vF 2) nilA)))))) (ρ := [some (.int (c / 8)), some (.list (G.map markD)), some (.list (eI A)), none, some (.list (eI Bk)), some (.int cnt), none, none]) (ms := ms) (by
            simp [r1, hms]) (by omega)
          have hl := ssetI_len ms
          refine ⟨some (ssetI ms, [pB]), ⟨[some (.int (c / 8)), some (.list (G.map markD)), some (.list (eI A)), none, some (.list (eI Bk)), some (.int cnt), some (.list (eI (ssetI ms))), none], ?_⟩, fun m e => by cases e; exact ⟨⟨by show (ssetI ms).length ≤ 100; omega, by simp⟩, gd_of (sset_nodup ms) (by simp) (.inr (by simp))⟩⟩
          unfold T__law_match_6 T__law_match_7
          simp [eA, eB, hc, h2, hss, dB, lB, hpB, List.length_pos_iff.mpr hBn, encO, eMt, eI]
  obtain ⟨o, ⟨ρ', h1⟩, h2⟩ := fin
  refine ⟨o, ?_, h2⟩
  have h3 := pre _ h1
  unfold S__law_match
  rw [e_runF, if_pos (show [PyData.int c, .list (G.map markD)].length = 2 from rfl), show env0 8 [PyData.int c, .list (G.map markD)] = [some (.int c), some (.list (G.map markD)), none, none, none, none, none, none] from rfl, h3]
@[simp] theorem e_isNN {d : PyData} : dIsNN d = some (.bool (match d with | .none => false | _ => true)) := rfl
theorem eqv_rank (a b : Mt) : PyData.eqv (eRank a) (eRank b) = decide (a = b) := by
  have h := eqv_mt a b
  unfold eRank
  rw [show PyData.eqv (.tuple [.int (nMt a), eMt a]) (.tuple [.int (nMt b), eMt b]) = (PyData.eqv (.int (nMt a)) (.int (nMt b)) && (PyData.eqv (eMt a) (eMt b) && true)) by simp only [PyData.eqv, PyData.eqvAll]]
  rw [h]
  simp only [PyData.eqv, Bool.and_true]
  rw [Bool.eq_iff_iff]
  simp
  rintro rfl; rfl
theorem sort_ranks (ms : List Mt) : dSorted [.list (ms.map eRank)] = some ((ms.mergeSort (leOf mtLt)).map eRank) := by
  unfold dSorted
  have hok : sortOk (ms.map eRank) = true := by
    unfold sortOk
    simp only [Bool.and_eq_true, Bool.or_eq_true, List.all_eq_true, List.mem_map]
    refine ⟨⟨?_, .inl ?_⟩, ?_⟩
    · rintro x ⟨a, _, rfl⟩ y ⟨b, _, rfl⟩; exact alike_rank a b
    · rintro x ⟨a, _, rfl⟩; rfl
    · rintro x ⟨a, _, rfl⟩; exact shal_of (depth_rank a)
  simp only [hok, if_true]
  congr 1
  refine (PySem.W.sort_maps eRank fun a _ b _ => ?_).symm
  rw [PySem.W.dataLe_eq]
  simp only [id, cond_false, lt_rank, leOf]
def BMs : Bs := (seqS (setS 4 (fL S__law_match (consA (f2 dAdd (fL S__law_cell_at (consA (vF 0) (consA (f2 dAdd (cF (.int 3)) (vF 3)) nilA))) (f2 dMul (cF (.int 97)) (vF 3))) (consA (vF 1) nilA)))) (ifS (asB (f1 dIsNN (vF 4))) (seqS (setS 5 (tupF (consA (f2 dAdd (fL dLen (consA (f2 dIx (vF 4) (cF (.int 0))) nilA)) (fL dLen (consA (f2 dIx (vF 4) (cF (.int 1))) nilA))) (consA (vF 4) nilA)))) (ifS (asB (f2 dNotIn (vF 5) (vF 2))) (appS 2 (vF 5)) nopS)) nopS))
theorem turnMs (ns : List Int) (G : List MkD) (fs : List Mt) (hfs : ∀ m, m ∈ fs → Ok6 m) (hl : fs.length ≤ 1000) (kk : Int) (hk : 0 ≤ kk) (w4 w5 : Option PyData) :
    ∃ (fs' : List Mt) (u4 u5 : Option PyData), BMs [some (.list (ns.map .int)), some (.list (G.map markD)), some (.list (fs.map eRank)), some (.int kk), w4, w5] = some (.nx [some (.list (ns.map .int)), some (.list (G.map markD)), some (.list (fs'.map eRank)), some (.int kk), u4, u5]) ∧ (∀ m, m ∈ fs' → Ok6 m) ∧ fs'.length ≤ fs.length + 1 := by
  obtain ⟨o, h1, h2⟩ := lmatch_eq (cellI ns (3 + kk) + 97 * kk) G
  have hc : S__law_cell_at [.list (ns.map .int), .int (3 + kk)] = _ := cell_at ns (3 + kk) (by omega)
  have hb : (-(2 ^ 64) < (97 : Int) ∧ (97 : Int) < 2 ^ 64) := by omega
  have hmul : dMul (.int 97) (.int kk) = some (.int (97 * kk)) := by rw [e_dMul, if_pos (.inl hb)]
  unfold BMs
  cases o with
  | none =>
    refine ⟨fs, some .none, w5, ?_, hfs, by omega⟩
    simp only [encO] at h1
    simp [hc, hmul, h1, -e_dMul]
  | some m =>
    have hm := h2 m rfl
    simp only [encO] at h1
    have h3 : dIsNN (eMt m) = some (.bool true) := rfl
    have h4 : dIx (eMt m) (.int 0) = some (.tuple (eI m.1)) := at0
    have h5 : dIx (eMt m) (.int 1) = some (.tuple (eI m.2)) := at1
    have h6 := notIn_list eqv_rank depth_rank fs m
    have hrow : PyData.tuple [.int ((m.1.length : Int) + m.2.length), eMt m] = eRank m := rfl
    by_cases hin : m ∈ fs
    · refine ⟨fs, some (eMt m), some (eRank m), ?_, hfs, by omega⟩
      simp [hc, hmul, h1, h3, h4, h5, eI, hrow, h6, hin, -e_dMul, -e_isNN]
    · refine ⟨fs ++ [m], some (eMt m), some (eRank m), ?_, fun m' hm' => ?_, by simp⟩
      · simp [hc, hmul, h1, h3, h4, h5, eI, hrow, h6, hin, -e_dMul, -e_isNN, show fs.length < 16777216 by omega]
      · rcases List.mem_append.mp hm' with h | h
        · exact hfs m' h
        · rw [List.mem_singleton.mp h]; exact hm
theorem lmatches_eq (ns : List Int) (G : List MkD) : ∃ ms : List Mt, S__law_matches [.list (ns.map .int), .list (G.map markD)] = some (.list (ms.map eMt)) ∧ (∀ m, m ∈ ms → Ok6 m) ∧ ms.length ≤ 8 := by
  generalize hz : cellI ns 2 % 9 = z
  have b1 : 0 ≤ z ∧ z ≤ 8 := by omega
  have go := for_ex (tgt := tgN 3) (B := BMs) (fun k : Nat => PyData.int (0 + k)) (fun pre ρ => ∃ (fs : List Mt) (w3 w4 w5 : Option PyData), ρ = [some (.list (ns.map .int)), some (.list (G.map markD)), some (.list (fs.map eRank)), w3, w4, w5] ∧ (∀ m, m ∈ fs → Ok6 m) ∧ fs.length ≤ pre.length) (List.range z.toNat) [] [some (.list (ns.map .int)), some (.list (G.map markD)), some (.list []), none, none, none]
    ⟨[], none, none, none, rfl, (fun m h => nomatch h), by simp⟩ (fun pre k post ρ e ⟨fs, w3, w4, w5, hρ, hok, hlen⟩ => ?_)
  · obtain ⟨ρ', h1, fs, w3, w4, w5, h2, h3, h4⟩ := go
    subst h2
    rw [List.nil_append, List.length_range] at h4
    refine ⟨fs.mergeSort (leOf mtLt), ?_, fun m hm => h3 m ((List.mergeSort_perm _ _).mem_iff.mp hm), by rw [List.length_mergeSort]; omega⟩
    have c2 : S__law_cell_at [.list (ns.map .int), .int 2] = _ := cell_at ns 2 (by omega)
    have r1 : z ≤ 16777216 ∧ -16777216 ≤ z := by omega
    have hr : dRange [.int z] = some ((List.range z.toNat).map fun k : Nat => PyData.int (0 + k)) := by rw [e_range1, if_pos r1]; rfl
    unfold BMs at h1
    unfold S__law_matches B__law_matches
    simp only [e_runF, e_env0, List.length_cons, List.length_nil, Nat.zero_add, Nat.reduceAdd, if_true, List.map_cons, List.map_nil, List.cons_append, List.nil_append, List.replicate, Nat.reduceSub, e_seqS, e_setO, e_few, e_nilA, Nat.zero_le, Option.bind_some, Option.map_some, List.set_cons_succ, List.set_cons_zero, e_forS, e_fL, e_exN, e_consA, e_f2, e_vF, e_cF, List.getElem?_cons_succ, List.getElem?_cons_zero, Option.join_some, c2, e_dMod, hz, Int.reduceLT, hr, h1, e_retS, e_lstF, e_lcF, e_seqA, e_wipeC, e_wipeN, sort_ranks]
    rw [lc_map eRank eMt]
    · rfl
    · intro m hm
      have h5 : dIx (eRank m) (.int 1) = some (eMt m) := at1
      simp [h5]
  · rw [List.nil_append] at e
    subst hρ
    have hz2 : pre.length < z.toNat := by have := congrArg List.length e; simp at this; omega
    obtain ⟨fs', u4, u5, g1, g2, g3⟩ := turnMs ns G fs hok (by omega) (0 + (k : Int)) (by omega) w4 w5
    refine ⟨_, ?_, fs', some (.int (0 + (k : Int))), u4, u5, rfl, g2, by simp; omega⟩
    simp only [e_tgN, Option.bind_some, List.set_cons_succ, List.set_cons_zero]
    exact g1
end Dat
open PySem PySem.Spec PyProof.Rows L2
namespace Dat
/-! ### a loop that looks for something -/
theorem for_find {tgt : Tgt} {B : Bs} {α : Type} (enc ret : α → PyData) (p : α → Bool) (Inv : Dv → Prop) : ∀ (xs : List α) (ρ : Dv), Inv ρ →
    (∀ x, x ∈ xs → ∀ ρ, Inv ρ → (p x = true → ∃ ρ', (tgt (enc x) ρ).bind B = some (.ret (ret x) ρ')) ∧ (p x = false → ∃ ρ', (tgt (enc x) ρ).bind B = some (.nx ρ') ∧ Inv ρ')) →
    (∀ x, xs.find? p = some x → ∃ ρ', forGo tgt B (xs.map enc) ρ = some (.ret (ret x) ρ')) ∧ (xs.find? p = none → ∃ ρ', forGo tgt B (xs.map enc) ρ = some (.nx ρ') ∧ Inv ρ')
  | [], ρ, i, _ => ⟨fun x h => (nomatch h), fun _ => ⟨ρ, rfl, i⟩⟩
  | x :: xs, ρ, i, st => by
    obtain ⟨h1, h2⟩ := st x (by simp) ρ i
    cases e : p x with
    | true =>
      obtain ⟨ρ', h⟩ := h1 e
      rw [List.find?_cons_of_pos (by simpa using e)]
      refine ⟨fun y hy => ?_, fun hy => (nomatch hy)⟩
      cases hy
      refine ⟨ρ', ?_⟩
      rw [List.map_cons]
      unfold forGo
      cases q : tgt (enc x) ρ with
      | none => rw [q] at h; simp at h
      | some ρ1 => rw [q, Option.bind_some] at h; simp [h]
    | false =>
      obtain ⟨ρ', h, i'⟩ := h2 e
      have ih := for_find enc ret p Inv xs ρ' i' fun y hy => st y (by simp [hy])
      rw [List.find?_cons_of_neg (by simpa using e)]
      have step : forGo tgt B ((x :: xs).map enc) ρ = forGo tgt B (xs.map enc) ρ' := by
        rw [List.map_cons]
        conv => lhs; unfold forGo
        cases q : tgt (enc x) ρ with
        | none => rw [q] at h; simp at h
        | some ρ1 => rw [q, Option.bind_some] at h; simp [h]
      rw [step]
      exact ih
theorem mst_cons (m : Mt) (ms : List Mt) (r : List MkD) : mst (m :: ms) r = max (mst ms r) (if ((marksM m).all fun y => decide (y ∈ r)) = true then (marksM m).length + mst ms (wo r m) else 0) := rfl
theorem max_ii (a b : Int) : dMax [.int a, .int b] = some (.int (max a b)) := by
  have e : dMax [.int a, .int b] = some (.int (if a < b then b else a)) := rfl
  rw [e]
  congr 2
  split <;> omega
theorem lmarks_eq {m : Mt} (h : MtOk m) : S__law_marks [eMt m] = some (.list ((marksM m).map markD)) := by
  unfold S__law_marks B__law_marks
  have hl : m.1.length + m.2.length ≤ 16777216 := by have := h.1; have := h.2; omega
  have e := marks_of_M h
  unfold S_marks_of B_marks_of at e
  exact e
theorem lc_notinL (r : List MkD) (ms : List MkD) {i v : Nat} {ρ : Dv} (hv : v ≠ i) (hi : i < ρ.length) (h0 : ρ[v]? = some (some (.list (r.map markD)))) :
    lcGo (tgN i) (asB (f2 dNotIn (vF i) (vF v))) (vF i) ρ (ms.map markD) = some ((ms.filter fun y => !decide (y ∈ r)).map markD) := lc_wo ms r hv hi h0
theorem filter_nil6 {r ms : List MkD} : (ms.filter fun y => !decide (y ∈ r)) = [] ↔ (ms.all fun y => decide (y ∈ r)) = true := by
  rw [List.filter_eq_nil_iff, List.all_eq_true]
  simp
theorem isE_map {α β : Type} (f : α → β) (l : List α) : (l.map f).isEmpty = l.isEmpty := by cases l <;> rfl
theorem isE_filter (r ms : List MkD) : (ms.filter fun y => !decide (y ∈ r)).isEmpty = (ms.all fun y => decide (y ∈ r)) := by
  rw [Bool.eq_iff_iff, List.isEmpty_iff]
  exact filter_nil6
def BMo (self : List PyData → Option PyData) : Bs := (seqS (setS 5 (fL S__law_marks (consA (vF 4) nilA))) (ifS (asB (f2 dEq (lstF (lcF (seqA (vF 5)) [7] (tgN 7) (asB (f2 dNotIn (vF 7) (vF 0))) (vF 7))) (lstF (few nilA)))) (seqS (setS 6 (lstF (lcF (seqA (vF 0)) [7] (tgN 7) (asB (f2 dNotIn (vF 7) (vF 5))) (vF 7)))) (setS 2 (fL dMax (consA (vF 2) (consA (f2 dAdd (fL dLen (consA (vF 5) nilA)) (fL self (consA (vF 6) (consA (slF dSl (vF 1) (someP (f2 dAdd (vF 3) (cF (.int 1)))) noP) nilA)))) nilA))))) nopS))
theorem cut_from {α : Type} (f : α → PyData) (xs : List α) (k : Nat) (hk : k ≤ xs.length) : dSl (.list (xs.map f)) (some (k : Int)) none = some (.list ((xs.drop k).map f)) := by
  rw [e_slL, cut_map]
  congr 2
  unfold cutI
  rw [HT.sIx_nat, HT.sIx_none, Nat.min_eq_left hk]
  rw [List.take_of_length_le (by rw [List.length_drop]; omega)]
theorem most_eq : ∀ (n : Nat) (r : List MkD) (ms : List Mt), ms.length < n → (∀ m, m ∈ ms → MtOk m) → S__law_most n [.list (r.map markD), .list (ms.map eMt)] = some (.int (mst ms r : Nat))
  | 0, r, ms, h, _ => by omega
  | n + 1, r, ms, h, hok => by
    have go := for_ex (tgt := tgP 3 4) (B := BMo (S__law_most n)) (fun p : Nat × Mt => PyData.tuple [.int p.1, eMt p.2])
      (fun pre ρ => ∃ (b : Nat) (w3 w4 w5 w6 : Option PyData), ρ = [some (.list (r.map markD)), some (.list (ms.map eMt)), some (.int (b : Nat)), w3, w4, w5, w6, none] ∧ max b (mst (ms.drop pre.length) r) = mst ms r) (ms.mapIdx fun i x => (i, x)) [] [some (.list (r.map markD)), some (.list (ms.map eMt)), some (.int 0), none, none, none, none, none]
      ⟨0, none, none, none, none, rfl, by simp⟩ (fun pre p post ρ e ⟨b, w3, w4, w5, w6, hρ, hb⟩ => ?_)
    · obtain ⟨ρ', h1, b, w3, w4, w5, w6, h2, h3⟩ := go
      subst h2
      rw [List.nil_append, List.length_mapIdx, List.drop_length] at h3
      have hb : b = mst ms r := by simpa [mst] using h3
      subst hb
      unfold BMo at h1
      rw [← num_map] at h1
      show runF 8 2 (B__law_most (S__law_most n)) _ = _
      unfold B__law_most
      simp only [e_runF, e_env0, List.length_cons, List.length_nil, Nat.zero_add, Nat.reduceAdd, if_true, List.map_cons, List.map_nil, List.cons_append, List.nil_append, List.replicate, Nat.reduceSub, e_seqS, e_setS, e_cF, Option.map_some, List.set_cons_succ, List.set_cons_zero, e_forS, e_enF, e_vF, List.getElem?_cons_succ, List.getElem?_cons_zero, Option.join_some, Option.bind_some, h1, e_retS]
    · rw [List.nil_append] at e
      subst hρ
      have hk : pre.length < ms.length := by have := congrArg List.length e; simp at this; omega
      have hp : p = (pre.length, ms[pre.length]) := by
        have h1 : (ms.mapIdx fun i x => (i, x))[pre.length]? = some p := by rw [e]; simp
        rw [List.getElem?_mapIdx, List.getElem?_eq_getElem hk] at h1
        exact (Option.some.inj h1).symm
      generalize hm0 : ms[pre.length] = m at hp
      subst hp
      have hm : m ∈ ms := by rw [← hm0]; exact List.getElem_mem hk
      have hd : ms.drop pre.length = m :: ms.drop (pre.length + 1) := by rw [List.drop_eq_getElem_cons hk, hm0]
      rw [hd] at hb
      have h1 := lmarks_eq (hok m hm)
      have hcut := cut_from eMt ms (pre.length + 1) (by omega)
      have hrec := most_eq n (wo r m) (ms.drop (pre.length + 1)) (by rw [List.length_drop]; omega) fun m' h' => hok m' (List.mem_of_mem_drop h')
      rw [mst_cons] at hb
      have hA : (asB (f2 dEq (lstF (lcF (seqA (vF 5)) [7] (tgN 7) (asB (f2 dNotIn (vF 7) (vF 0))) (vF 7))) (lstF (few nilA)))) [some (.list (r.map markD)), some (.list (ms.map eMt)), some (.int (b : Nat)), some (.int (pre.length : Nat)), some (eMt m), some (.list ((marksM m).map markD)), w6, none] = some ((marksM m).all fun y => decide (y ∈ r)) := by
        simp only [e_asB, e_f2, e_lstF, e_lcF, e_seqA, e_vF, List.getElem?_cons_succ, List.getElem?_cons_zero, Option.join_some, Option.bind_some, e_wipeC, e_wipeN, List.set_cons_succ, List.set_cons_zero]
        rw [lc_notinL r (marksM m) (by decide) (by simp) rfl]
        simp only [Option.map_some, Option.bind_some, e_few, e_nilA, List.length_nil, Nat.zero_le, if_true, eq_nil, isE_map, isE_filter]
      cases hall : (marksM m).all fun y => decide (y ∈ r) with
      | false =>
        rw [hall] at hA hb
        simp only [Bool.false_eq_true, if_false, Nat.max_zero] at hb
        refine ⟨_, ?_, b, some (.int (pre.length : Nat)), some (eMt m), some (.list ((marksM m).map markD)), w6, rfl, by simpa using hb⟩
        unfold BMo
        simp only [e_tgP, Option.bind_some, List.set_cons_succ, List.set_cons_zero, e_seqS, e_setS, e_fL, e_consA, e_nilA, e_vF, List.getElem?_cons_succ, List.getElem?_cons_zero, Option.join_some, Option.map_some, h1, e_ifS, hA, e_nopS]
      | true =>
        rw [hall] at hA hb
        simp only [if_true] at hb
        have hB : (setS 6 (lstF (lcF (seqA (vF 0)) [7] (tgN 7) (asB (f2 dNotIn (vF 7) (vF 5))) (vF 7)))) [some (.list (r.map markD)), some (.list (ms.map eMt)), some (.int (b : Nat)), some (.int (pre.length : Nat)), some (eMt m), some (.list ((marksM m).map markD)), w6, none] = some (.nx [some (.list (r.map markD)), some (.list (ms.map eMt)), some (.int (b : Nat)), some (.int (pre.length : Nat)), some (eMt m), some (.list ((marksM m).map markD)), some (.list ((wo r m).map markD)), none]) := by
          simp only [e_setS, e_lstF, e_lcF, e_seqA, e_vF, List.getElem?_cons_succ, List.getElem?_cons_zero, Option.join_some, Option.bind_some, e_wipeC, e_wipeN, List.set_cons_succ, List.set_cons_zero]
          rw [lc_notinL (marksM m) r (by decide) (by simp) rfl]
          rfl
        refine ⟨_, ?_, max b ((marksM m).length + mst (ms.drop (pre.length + 1)) (wo r m)), some (.int (pre.length : Nat)), some (eMt m), some (.list ((marksM m).map markD)), some (.list ((wo r m).map markD)), rfl, ?_⟩
        · have hmx : ∀ x y : Nat, max (x : Int) ((y : Nat) : Int) = ((max x y : Nat) : Int) := fun x y => by omega
          unfold BMo
          simp only [e_tgP, Option.bind_some, List.set_cons_succ, List.set_cons_zero, e_seqS, e_setS, e_fL, e_consA, e_nilA, e_vF, List.getElem?_cons_succ, List.getElem?_cons_zero, Option.join_some, Option.map_some, h1, e_ifS, hA]
          have hB' := hB
          simp only [e_setS, List.set_cons_succ, List.set_cons_zero] at hB'
          simp only [hB', List.getElem?_cons_succ, List.getElem?_cons_zero, Option.join_some, Option.bind_some, e_f2, e_fL, e_consA, e_nilA, e_vF, e_cF, Option.map_some, e_lenL, List.length_map, e_slF, e_someP, e_dAdd, e_noP, show ((pre.length : Int) + 1) = ((pre.length + 1 : Nat) : Int) by omega, hcut, hrec, max_ii, ← Int.natCast_add, hmx, List.set_cons_succ, List.set_cons_zero]
        · rw [List.length_append, List.length_singleton, ← hb]
          omega
end Dat
open PySem PySem.Spec PyProof.Rows L2
namespace Dat
theorem lv_iff {ms : List Mt} (g : ∀ m, m ∈ ms → Gd m) (r q : List MkD) : ((q.length : Int) - (mst ms q : Nat) = (r.length : Int) - (mst ms r : Nat)) ↔ lv ms q = lv ms r := by
  have h1 := mst_le g r
  have h2 := mst_le g q
  unfold lv
  omega
def BFi : Bs := (seqS (setS 4 (fL S__law_marks (consA (vF 3) nilA))) (seqS (setS 5 (lstF (lcF (seqA (vF 0)) [6] (tgN 6) (asB (f2 dNotIn (vF 6) (vF 4))) (vF 6)))) (ifS (andT (asB (f2 dIn (f2 dIx (vF 0) (cF (.int 0))) (vF 4))) (asB (f2 dEq (f2 dAdd (fL dLen (consA (vF 5) nilA)) (fL dLen (consA (vF 4) nilA))) (fL dLen (consA (vF 0) nilA))))) (ifS (asB (f2 dEq (f2 dSub (fL dLen (consA (vF 5) nilA)) (fL (S__law_most 12) (consA (vF 5) (consA (vF 1) nilA)))) (vF 2))) (retS (vF 3)) nopS) nopS)))
theorem turnFi {r : List MkD} {ms : List Mt} (hr : r.Nodup) (hne : r ≠ []) (hok : ∀ m, m ∈ ms → Ok6 m) (hl : ms.length < 12) {m : Mt} (hm : m ∈ ms) (w4 w5 : Option PyData) :
    BFi [some (.list (r.map markD)), some (.list (ms.map eMt)), some (.int ((r.length : Int) - (mst ms r : Nat))), some (eMt m), w4, w5, none] =
      (if (opn r m && decide (lv ms (wo r m) = lv ms r)) = true then some (.ret (eMt m) [some (.list (r.map markD)), some (.list (ms.map eMt)), some (.int ((r.length : Int) - (mst ms r : Nat))), some (eMt m), some (.list ((marksM m).map markD)), some (.list ((wo r m).map markD)), none])
        else some (.nx [some (.list (r.map markD)), some (.list (ms.map eMt)), some (.int ((r.length : Int) - (mst ms r : Nat))), some (eMt m), some (.list ((marksM m).map markD)), some (.list ((wo r m).map markD)), none])) := by
  have g : ∀ m, m ∈ ms → Gd m := fun m h => (hok m h).2
  obtain ⟨x, tl, rfl⟩ : ∃ x tl, r = x :: tl := by cases r with | nil => exact absurd rfl hne | cons x tl => exact ⟨x, tl, rfl⟩
  have h1 := lmarks_eq (hok m hm).1
  have hmost := most_eq 12 (wo (x :: tl) m) ms hl fun m h => (hok m h).1
  have S4 : (setS 4 (fL S__law_marks (consA (vF 3) nilA))) [some (.list ((x :: tl).map markD)), some (.list (ms.map eMt)), some (.int (((x :: tl).length : Int) - (mst ms (x :: tl) : Nat))), some (eMt m), w4, w5, none] = some (.nx [some (.list ((x :: tl).map markD)), some (.list (ms.map eMt)), some (.int (((x :: tl).length : Int) - (mst ms (x :: tl) : Nat))), some (eMt m), some (.list ((marksM m).map markD)), w5, none]) := by
    simp only [e_setS, e_fL, e_consA, e_nilA, e_vF, List.getElem?_cons_succ, List.getElem?_cons_zero, Option.join_some, Option.bind_some, Option.map_some, h1, List.set_cons_succ, List.set_cons_zero]
  have S5 : (setS 5 (lstF (lcF (seqA (vF 0)) [6] (tgN 6) (asB (f2 dNotIn (vF 6) (vF 4))) (vF 6)))) [some (.list ((x :: tl).map markD)), some (.list (ms.map eMt)), some (.int (((x :: tl).length : Int) - (mst ms (x :: tl) : Nat))), some (eMt m), some (.list ((marksM m).map markD)), w5, none] = some (.nx [some (.list ((x :: tl).map markD)), some (.list (ms.map eMt)), some (.int (((x :: tl).length : Int) - (mst ms (x :: tl) : Nat))), some (eMt m), some (.list ((marksM m).map markD)), some (.list ((wo (x :: tl) m).map markD)), none]) := by
    simp only [e_setS, e_lstF, e_lcF, e_seqA, e_vF, List.getElem?_cons_succ, List.getElem?_cons_zero, Option.join_some, Option.bind_some, e_wipeC, e_wipeN, List.set_cons_succ, List.set_cons_zero]
    rw [lc_notinL (marksM m) (x :: tl) (by decide) (by simp) rfl]
    rfl
  have hix : dIx (.list ((x :: tl).map markD)) (.int 0) = some (markD x) := at0
  have hin := in_list eqv_markD depth_markD (marksM m) x
  have Ca : (asB (f2 dIn (f2 dIx (vF 0) (cF (.int 0))) (vF 4))) [some (.list ((x :: tl).map markD)), some (.list (ms.map eMt)), some (.int (((x :: tl).length : Int) - (mst ms (x :: tl) : Nat))), some (eMt m), some (.list ((marksM m).map markD)), some (.list ((wo (x :: tl) m).map markD)), none] = some (decide (x ∈ marksM m)) := by
    simp only [e_asB, e_f2, e_vF, e_cF, List.getElem?_cons_succ, List.getElem?_cons_zero, Option.join_some, Option.bind_some, hix, hin]
    by_cases hx : x ∈ marksM m <;> simp [hx]
  have Cb : (asB (f2 dEq (f2 dAdd (fL dLen (consA (vF 5) nilA)) (fL dLen (consA (vF 4) nilA))) (fL dLen (consA (vF 0) nilA)))) [some (.list ((x :: tl).map markD)), some (.list (ms.map eMt)), some (.int (((x :: tl).length : Int) - (mst ms (x :: tl) : Nat))), some (eMt m), some (.list ((marksM m).map markD)), some (.list ((wo (x :: tl) m).map markD)), none] = some (decide ((wo (x :: tl) m).length + (marksM m).length = (x :: tl).length)) := by
    simp only [e_asB, e_f2, e_fL, e_consA, e_nilA, e_vF, e_cF, List.getElem?_cons_succ, List.getElem?_cons_zero, Option.join_some, Option.bind_some, Option.map_some, e_lenL, List.length_map, e_dAdd, e_eqI]
    congr 1
    rw [Bool.eq_iff_iff, decide_eq_true_eq, decide_eq_true_eq]
    omega
  have hop : opn (x :: tl) m = (decide (x ∈ marksM m) && decide ((wo (x :: tl) m).length + (marksM m).length = (x :: tl).length)) := by
    rw [Bool.eq_iff_iff, opn_cons, Bool.and_eq_true, decide_eq_true_eq, decide_eq_true_eq, wo_len_iff hr (g m hm).1]
  have Cd : (andT (asB (f2 dIn (f2 dIx (vF 0) (cF (.int 0))) (vF 4))) (asB (f2 dEq (f2 dAdd (fL dLen (consA (vF 5) nilA)) (fL dLen (consA (vF 4) nilA))) (fL dLen (consA (vF 0) nilA))))) [some (.list ((x :: tl).map markD)), some (.list (ms.map eMt)), some (.int (((x :: tl).length : Int) - (mst ms (x :: tl) : Nat))), some (eMt m), some (.list ((marksM m).map markD)), some (.list ((wo (x :: tl) m).map markD)), none] = some (opn (x :: tl) m) := by
    rw [e_andT, Ca, Cb, hop]
    cases decide (x ∈ marksM m) <;> rfl
  have Ci : (asB (f2 dEq (f2 dSub (fL dLen (consA (vF 5) nilA)) (fL (S__law_most 12) (consA (vF 5) (consA (vF 1) nilA)))) (vF 2))) [some (.list ((x :: tl).map markD)), some (.list (ms.map eMt)), some (.int (((x :: tl).length : Int) - (mst ms (x :: tl) : Nat))), some (eMt m), some (.list ((marksM m).map markD)), some (.list ((wo (x :: tl) m).map markD)), none] = some (decide (lv ms (wo (x :: tl) m) = lv ms (x :: tl))) := by
    simp only [e_asB, e_f2, e_fL, e_consA, e_nilA, e_vF, e_cF, List.getElem?_cons_succ, List.getElem?_cons_zero, Option.join_some, Option.bind_some, Option.map_some, e_lenL, List.length_map, hmost, e_dSub, e_eqI]
    congr 1
    rw [Bool.eq_iff_iff, decide_eq_true_eq, decide_eq_true_eq]
    exact lv_iff g _ _
  unfold BFi
  simp only [e_seqS, S4, S5, e_ifS, Cd]
  cases opn (x :: tl) m with
  | false => simp
  | true =>
    simp only [Ci, Bool.true_and]
    cases decide (lv ms (wo (x :: tl) m) = lv ms (x :: tl)) with
    | false => simp
    | true => simp
theorem first_eq {r : List MkD} {ms : List Mt} (hr : r.Nodup) (hne : r ≠ []) (hok : ∀ m, m ∈ ms → Ok6 m) (hl : ms.length < 12) : S__law_first [.list (r.map markD), .list (ms.map eMt)] = some (encO (nxt ms r)) := by
  have hmost := most_eq 12 r ms hl fun m h => (hok m h).1
  obtain ⟨f1, f2'⟩ := for_find (tgt := tgN 3) (B := BFi) eMt eMt (fun m => opn r m && decide (lv ms (wo r m) = lv ms r))
    (fun ρ => ∃ w3 w4 w5 : Option PyData, ρ = [some (.list (r.map markD)), some (.list (ms.map eMt)), some (.int ((r.length : Int) - (mst ms r : Nat))), w3, w4, w5, none]) ms [some (.list (r.map markD)), some (.list (ms.map eMt)), some (.int ((r.length : Int) - (mst ms r : Nat))), none, none, none, none] ⟨none, none, none, rfl⟩
    (fun m hm ρ ⟨w3, w4, w5, hρ⟩ => by
      subst hρ
      have t := turnFi hr hne hok hl hm w4 w5
      simp only [e_tgN, Option.bind_some, List.set_cons_succ, List.set_cons_zero]
      refine ⟨fun h => ?_, fun h => ?_⟩
      · rw [if_pos h] at t; exact ⟨_, t⟩
      · rw [if_neg (by rw [h]; decide)] at t; exact ⟨_, t, _, _, _, rfl⟩)
  have pre : ∀ (q : Option Res), forGo (tgN 3) BFi (ms.map eMt) [some (.list (r.map markD)), some (.list (ms.map eMt)), some (.int ((r.length : Int) - (mst ms r : Nat))), none, none, none, none] = q →
      B__law_first (env0 7 [.list (r.map markD), .list (ms.map eMt)]) = (match q with | some (.nx ρ') => retS (cF .none) ρ' | r => r) := fun q hq => by
    unfold BFi at hq
    unfold B__law_first
    simp only [e_env0, List.length_cons, List.length_nil, Nat.zero_add, Nat.reduceAdd, List.map_cons, List.map_nil, List.cons_append, List.nil_append, List.replicate, Nat.reduceSub, e_seqS, e_setS, e_f2, e_fL, e_consA, e_nilA, e_vF, List.getElem?_cons_succ, List.getElem?_cons_zero, Option.join_some, Option.bind_some, Option.map_some, e_lenL, List.length_map, hmost, e_dSub, List.set_cons_succ, List.set_cons_zero, e_forS, e_seqA, hq]
    all_goals
      cases q with
      | none => rfl
      | some z => cases z <;> rfl
  unfold S__law_first
  rw [e_runF, if_pos (show [PyData.list (r.map markD), .list (ms.map eMt)].length = 2 from rfl)]
  cases e : nxt ms r with
  | none =>
    obtain ⟨ρ', h, w3, w4, w5, hρ⟩ := f2' e
    rw [pre _ h]
    rfl
  | some m =>
    obtain ⟨ρ', h⟩ := f1 m e
    rw [pre _ h]
    rfl
end Dat
open PySem PySem.Spec PyProof.Rows L2
namespace Dat
/-! ### what the table says -/
theorem fold_min {α : Type} (f : α → Int) : ∀ (l : List α) (b : Int), l.foldl (fun b m => min b (f m)) b ≤ b ∧ (∀ m, m ∈ l → l.foldl (fun b m => min b (f m)) b ≤ f m) ∧ (l.foldl (fun b m => min b (f m)) b = b ∨ ∃ m, m ∈ l ∧ l.foldl (fun b m => min b (f m)) b = f m)
  | [], b => ⟨Int.le_refl _, (fun m h => (nomatch h)), .inl rfl⟩
  | x :: l, b => by
    obtain ⟨h1, h2, h3⟩ := fold_min f l (min b (f x))
    simp only [List.foldl_cons]
    generalize l.foldl (fun b m => min b (f m)) (min b (f x)) = v at *
    refine ⟨by omega, fun m hm => ?_, ?_⟩
    · rcases List.mem_cons.mp hm with rfl | hm
      · omega
      · exact h2 m hm
    · rcases h3 with h3 | ⟨m, hm, h3⟩
      · by_cases q : b ≤ f x
        · exact .inl (by omega)
        · exact .inr ⟨x, by simp, by omega⟩
      · exact .inr ⟨m, by simp [hm], h3⟩
theorem good_lv {ms : List Mt} {t : Tb} (g : ∀ m, m ∈ ms → Gd m) (gt : Good ms t) : ∀ (n : Nat) (r : List MkD) (v : Int), r.length ≤ n → r.Nodup → tGet t r = some v → v = (lv ms r : Nat)
  | n, [], v, _, _, h => by
    have h0 : v = 0 := gt.ok [] v h
    have := mst_le g []
    unfold lv
    simp at this ⊢
    omega
  | 0, x :: tl, v, h, _, _ => by simp at h
  | n + 1, x :: tl, v, h, hr, hv => by
    simp only [List.length_cons] at h
    obtain ⟨a, ha, hsome, hveq⟩ := gt.ok (x :: tl) v hv
    have hta := good_lv g gt n tl a (by omega) (List.nodup_cons.mp hr).2 ha
    have hw : ∀ m, m ∈ ms → opn (x :: tl) m = true → (tGet t (wo (x :: tl) m)).getD 0 = (lv ms (wo (x :: tl) m) : Nat) := fun m hm ho => by
      obtain ⟨w, hw⟩ := Option.isSome_iff_exists.mp (hsome m hm ho)
      have := wo_short ho
      simp only [List.length_cons] at this
      rw [hw]
      exact good_lv g gt n _ w (by omega) (wo_nodup hr) hw
    obtain ⟨f1, f2, f3⟩ := fold_min (fun m => (tGet t (wo (x :: tl) m)).getD 0) (ms.filter (opn (x :: tl))) (1 + a)
    rw [← hveq] at f1 f2 f3
    have lo : ((lv ms (x :: tl) : Nat) : Int) ≤ v := by
      rcases f3 with f3 | ⟨m, hm, f3⟩
      · have := lv_tl g x tl; omega
      · obtain ⟨m1, m2⟩ := List.mem_filter.mp hm
        rw [hw m m1 m2] at f3
        have := (lv_wo g hr m1 (opn_sub m2)).1
        omega
    have hi : v ≤ ((lv ms (x :: tl) : Nat) : Int) := by
      rcases lv_one g hr with h1 | ⟨m, hm, ho, h1⟩
      · omega
      · have := f2 m (List.mem_filter.mpr ⟨hm, ho⟩)
        rw [hw m hm ho] at this
        omega
    omega
/-! ### picked -/
def BPi : Bs := (seqS (setS 5 (lstF (lcF (seqA (vF 1)) [7] (tgN 7) (asB (fL S_is_open (consA (vF 3) (consA (vF 7) nilA)))) (vF 7)))) (seqS (setS 6 (lstF (lcF (seqA (vF 5)) [7] (tgN 7) (asB (f2 dEq (tabF2 kvGet 2 (fL S_without (consA (vF 3) (consA (vF 7) nilA)))) (tabF2 kvGet 2 (vF 3)))) (vF 7)))) (ifS (asB (f2 dEq (vF 6) (lstF (few nilA)))) (setS 3 (slF dSl (vF 3) (someP (cF (.int 1))) noP)) (seqS (appS 4 (f2 dIx (vF 6) (cF (.int 0)))) (setS 3 (fL S_without (consA (vF 3) (consA (f2 dIx (vF 6) (cF (.int 0))) nilA))))))))
theorem turnPi {v0 : Option PyData} {ms : List Mt} {t : Tb} (hok : ∀ m, m ∈ ms → Ok6 m) (gt : Good ms t) {x : MkD} {tl : List MkD} (hr : (x :: tl).Nodup) (hk : x :: tl ∈ t.map (·.1)) (found : List Mt) (hf : found.length ≤ 1000) (w5 w6 : Option PyData) :
    ∃ u5 u6 : Option PyData, BPi [v0, some (.list (ms.map eMt)), some (.dict (eTab t)), some (tK (x :: tl)), some (.list (found.map eMt)), w5, w6, none] =
      some (.nx (match nxt ms (x :: tl) with
        | none => [v0, some (.list (ms.map eMt)), some (.dict (eTab t)), some (tK tl), some (.list (found.map eMt)), u5, u6, none]
        | some m => [v0, some (.list (ms.map eMt)), some (.dict (eTab t)), some (tK (wo (x :: tl) m)), some (.list ((found ++ [m]).map eMt)), u5, u6, none])) := by
  have g : ∀ m, m ∈ ms → Gd m := fun m h => (hok m h).2
  obtain ⟨v, hv⟩ : ∃ v, tGet t (x :: tl) = some v := by
    cases e : tGet t (x :: tl) with
    | none => exact absurd hk (tGet_none.mp e)
    | some v => exact ⟨v, rfl⟩
  obtain ⟨a, ha, hsome, _⟩ := gt.ok _ _ hv
  have hvl := good_lv g gt _ _ _ (Nat.le_refl _) hr hv
  have hgr : kvGet (eTab t) (kM (x :: tl)) = some (.int (lv ms (x :: tl) : Nat)) := by rw [get_tab, hv, ← hvl]; rfl
  have l1 : lcGo (tgN 7) (asB (fL S_is_open (consA (vF 3) (consA (vF 7) nilA)))) (vF 7) [v0, some (.list (ms.map eMt)), some (.dict (eTab t)), some (tK (x :: tl)), some (.list (found.map eMt)), w5, w6, none] (ms.map eMt) = some ((ms.filter (opn (x :: tl))).map eMt) :=
    lc_filter eMt eMt (opn (x :: tl)) ms fun m hm => ⟨_, rfl, by
      have h := is_open_eq (r := x :: tl) (hok m hm).1 (by simp)
      simp [h], fun _ => by simp⟩
  have hS5 : (setS 5 (lstF (lcF (seqA (vF 1)) [7] (tgN 7) (asB (fL S_is_open (consA (vF 3) (consA (vF 7) nilA)))) (vF 7)))) [v0, some (.list (ms.map eMt)), some (.dict (eTab t)), some (tK (x :: tl)), some (.list (found.map eMt)), w5, w6, none] =
      some (.nx [v0, some (.list (ms.map eMt)), some (.dict (eTab t)), some (tK (x :: tl)), some (.list (found.map eMt)), some (.list ((ms.filter (opn (x :: tl))).map eMt)), w6, none]) := by
    simp only [e_setS, e_lstF, e_lcF, e_seqA, e_vF, List.getElem?_cons_succ, List.getElem?_cons_zero, Option.join_some, Option.bind_some, e_wipeC, e_wipeN, List.set_cons_succ, List.set_cons_zero, l1, Option.map_some]
  have l2 : lcGo (tgN 7) (asB (f2 dEq (tabF2 kvGet 2 (fL S_without (consA (vF 3) (consA (vF 7) nilA)))) (tabF2 kvGet 2 (vF 3)))) (vF 7) [v0, some (.list (ms.map eMt)), some (.dict (eTab t)), some (tK (x :: tl)), some (.list (found.map eMt)), some (.list ((ms.filter (opn (x :: tl))).map eMt)), w6, none] ((ms.filter (opn (x :: tl))).map eMt) =
      some (((ms.filter (opn (x :: tl))).filter fun m => decide (lv ms (wo (x :: tl) m) = lv ms (x :: tl))).map eMt) :=
    lc_filter eMt eMt (fun m => decide (lv ms (wo (x :: tl) m) = lv ms (x :: tl))) _ fun m hm => ⟨_, rfl, by
      obtain ⟨m1, m2⟩ := List.mem_filter.mp hm
      have h := without_eq (r := x :: tl) (hok m m1).1
      obtain ⟨w, hw⟩ := Option.isSome_iff_exists.mp (hsome m m1 m2)
      have hwl := good_lv g gt _ _ _ (Nat.le_refl _) (wo_nodup hr) hw
      have hgw : kvGet (eTab t) (kM (wo (x :: tl) m)) = some (.int (lv ms (wo (x :: tl) m) : Nat)) := by rw [get_tab, hw, ← hwl]; rfl
      have e1 : (tabF2 kvGet 2 (fL S_without (consA (vF 3) (consA (vF 7) nilA)))) [v0, some (.list (ms.map eMt)), some (.dict (eTab t)), some (tK (x :: tl)), some (.list (found.map eMt)), some (.list ((ms.filter (opn (x :: tl))).map eMt)), w6, some (eMt m)] = some (.int (lv ms (wo (x :: tl) m) : Nat)) := by
        simp [tabF2, dvGet, h, key_tK, hgw]
      have e2 : (tabF2 kvGet 2 (vF 3)) [v0, some (.list (ms.map eMt)), some (.dict (eTab t)), some (tK (x :: tl)), some (.list (found.map eMt)), some (.list ((ms.filter (opn (x :: tl))).map eMt)), w6, some (eMt m)] = some (.int (lv ms (x :: tl) : Nat)) := by
        simp [tabF2, dvGet, key_tK, hgr]
      show asB _ [v0, some (.list (ms.map eMt)), some (.dict (eTab t)), some (tK (x :: tl)), some (.list (found.map eMt)), some (.list ((ms.filter (opn (x :: tl))).map eMt)), w6, some (eMt m)] = _
      rw [e_asB, e_f2, e1, e2]
      simp only [Option.bind_some, e_eqI]
      congr 1
      rw [Bool.eq_iff_iff, decide_eq_true_eq, decide_eq_true_eq]
      omega, fun _ => by simp⟩
  have hS6 : (setS 6 (lstF (lcF (seqA (vF 5)) [7] (tgN 7) (asB (f2 dEq (tabF2 kvGet 2 (fL S_without (consA (vF 3) (consA (vF 7) nilA)))) (tabF2 kvGet 2 (vF 3)))) (vF 7)))) [v0, some (.list (ms.map eMt)), some (.dict (eTab t)), some (tK (x :: tl)), some (.list (found.map eMt)), some (.list ((ms.filter (opn (x :: tl))).map eMt)), w6, none] =
      some (.nx [v0, some (.list (ms.map eMt)), some (.dict (eTab t)), some (tK (x :: tl)), some (.list (found.map eMt)), some (.list ((ms.filter (opn (x :: tl))).map eMt)), some (.list (((ms.filter (opn (x :: tl))).filter fun m => decide (lv ms (wo (x :: tl) m) = lv ms (x :: tl))).map eMt)), none]) := by
    simp only [e_setS, e_lstF, e_lcF, e_seqA, e_vF, List.getElem?_cons_succ, List.getElem?_cons_zero, Option.join_some, Option.bind_some, e_wipeC, e_wipeN, List.set_cons_succ, List.set_cons_zero, l2, Option.map_some]
  have hhead : ((ms.filter (opn (x :: tl))).filter fun m => decide (lv ms (wo (x :: tl) m) = lv ms (x :: tl))).head? = nxt ms (x :: tl) := by
    rw [List.filter_filter, List.head?_filter]
    unfold nxt
    congr 1
    funext m
    rw [Bool.and_comm]
  generalize hgd : ((ms.filter (opn (x :: tl))).filter fun m => decide (lv ms (wo (x :: tl) m) = lv ms (x :: tl))) = gd at hS6 hhead
  refine ⟨some (.list ((ms.filter (opn (x :: tl))).map eMt)), some (.list (gd.map eMt)), ?_⟩
  unfold BPi
  simp only [e_seqS, hS5, hS6, e_ifS]
  cases gd with
  | nil =>
    have hn : nxt ms (x :: tl) = none := hhead.symm
    rw [hn]
    simp only [e_asB, e_f2, e_vF, e_lstF, e_few, e_nilA, List.getElem?_cons_succ, List.getElem?_cons_zero, Option.join_some, Option.bind_some, Option.map_some, List.length_nil, Nat.zero_le, if_true, List.map_nil, eq_nil, List.isEmpty_nil, e_setS, e_slF, e_someP, e_cF, e_noP, sl_tail, List.set_cons_succ, List.set_cons_zero]
  | cons m gd =>
    have hn : nxt ms (x :: tl) = some m := hhead.symm
    rw [hn]
    have hm := (nxt_some hn).1
    have hw := without_eq (r := x :: tl) (hok m hm).1
    have hix : dIx (.list (eMt m :: gd.map eMt)) (.int 0) = some (eMt m) := at0
    simp only [e_asB, e_f2, e_vF, e_lstF, e_few, e_nilA, List.getElem?_cons_succ, List.getElem?_cons_zero, Option.join_some, Option.bind_some, Option.map_some, List.length_nil, Nat.zero_le, if_true, List.map_cons, eq_nil, List.isEmpty_cons, e_setS, e_appS, e_dvGet, hix, e_cF, List.length_map, show found.length < 16777216 by omega, e_fL, e_consA, hw, List.set_cons_succ, List.set_cons_zero, List.map_append, List.map_nil, e_seqS]
theorem picked_eq {ms : List Mt} (hok : ∀ m, m ∈ ms → Ok6 m) {G : List MkD} (hG : G.length ≤ 10) (hn : G.Nodup) : S_picked [.list (G.map markD), .list (ms.map eMt)] = some (.list ((pk ms G).map eMt)) := by
  have g : ∀ m, m ∈ ms → Gd m := fun m h => (hok m h).2
  obtain ⟨t, hT, gT, sT, mT⟩ := table_eq (fun m h => (hok m h).1) hG
  obtain ⟨v, hv⟩ := Option.isSome_iff_exists.mp sT
  have hC : ∀ (rest : List MkD) (found : List Mt) (w5 w6 : Option PyData), (asB (f2 dGt (fL dLen (consA (vF 3) nilA)) (cF (.int 0)))) [some (.list (G.map markD)), some (.list (ms.map eMt)), some (.dict (eTab t)), some (tK rest), some (.list (found.map eMt)), w5, w6, none] = some (decide (0 < rest.length)) := fun rest found w5 w6 => by
    have : dLen [tK rest] = some (.int (rest.length : Nat)) := by simp [tK]
    simp [this]
  obtain ⟨ρ', h1, ⟨rest, found, w5, w6, e, hs, hk, hf, hl⟩, h3⟩ := wh_ex (C := asB (f2 dGt (fL dLen (consA (vF 3) nilA)) (cF (.int 0)))) (B := BPi)
    (fun ρ => ∃ (rest : List MkD) (found : List Mt) (w5 w6 : Option PyData), ρ = [some (.list (G.map markD)), some (.list (ms.map eMt)), some (.dict (eTab t)), some (tK rest), some (.list (found.map eMt)), w5, w6, none] ∧ rest.Sublist G ∧ rest ∈ t.map (·.1) ∧ found ++ pk ms rest = pk ms G ∧ found.length + rest.length ≤ 10)
    (fun ρ => match dvGet ρ 3 with | some (.tuple l) => l.length | _ => 0) (fun ρ ⟨rest, found, w5, w6, e, hs, hk, hf, hl⟩ => by
      subst e
      rw [hC]
      cases rest with
      | nil => left; rfl
      | cons x tl =>
        right
        obtain ⟨u5, u6, hstep⟩ := turnPi (v0 := some (.list (G.map markD))) hok gT (hs.nodup hn) hk found (by omega) w5 w6
        obtain ⟨v, hv⟩ : ∃ v, tGet t (x :: tl) = some v := by
          cases e : tGet t (x :: tl) with
          | none => exact absurd hk (tGet_none.mp e)
          | some v => exact ⟨v, rfl⟩
        obtain ⟨a, ha, hsome, _⟩ := gT.ok _ _ hv
        simp only [List.length_cons] at hl
        cases hx : nxt ms (x :: tl) with
        | none =>
          rw [hx] at hstep
          refine ⟨by simp, _, hstep, ⟨tl, found, u5, u6, rfl, (List.sublist_cons_self x tl).trans hs, key_of_get ha, by rw [← hf, pk_none hx], by omega⟩, ?_⟩
          show (tl.map markD).length < ((x :: tl).map markD).length
          simp
        | some m =>
          rw [hx] at hstep
          obtain ⟨n1, n2, n3⟩ := nxt_some hx
          obtain ⟨w, hw⟩ := Option.isSome_iff_exists.mp (hsome m n1 n2)
          have hsh := wo_short n2
          simp only [List.length_cons] at hsh
          refine ⟨by simp, _, hstep, ⟨wo (x :: tl) m, found ++ [m], u5, u6, rfl, (wo_sub _ m).trans hs, key_of_get hw, by rw [← hf, pk_some hx]; simp, by simp; omega⟩, ?_⟩
          show ((wo (x :: tl) m).map markD).length < ((x :: tl).map markD).length
          simp only [List.length_map, List.length_cons]
          omega) 100000 [some (.list (G.map markD)), some (.list (ms.map eMt)), some (.dict (eTab t)), some (tK G), some (.list ([] : List PyData)), none, none, none]
    ⟨G, [], none, none, rfl, List.Sublist.refl _, key_of_get hv, by simp, by simp; omega⟩ (by show (G.map markD).length < 100000; rw [List.length_map]; omega)
  subst e
  rw [hC] at h3
  have hrest : rest = [] := by
    cases rest with
    | nil => rfl
    | cons x tl => simp at h3
  subst hrest
  rw [pk_nil, List.append_nil] at hf
  subst hf
  unfold BPi at h1
  have hst : setTabS 2 S_table (consA (vF 0) (consA (vF 1) nilA)) [some (.list (G.map markD)), some (.list (ms.map eMt)), none, none, none, none, none, none] = some (.nx [some (.list (G.map markD)), some (.list (ms.map eMt)), some (.dict (eTab t)), none, none, none, none, none]) := by
    unfold setTabS
    simp [hT]
  have htup : dTuple [.list (G.map markD)] = some (tK G) := rfl
  unfold S_picked B_picked
  simp only [e_runF, e_env0, List.length_cons, List.length_nil, Nat.zero_add, Nat.reduceAdd, if_true, List.map_cons, List.map_nil, List.cons_append, List.nil_append, List.replicate, Nat.reduceSub, e_seqS, hst, e_setS, e_fL, e_consA, e_nilA, e_vF, List.getElem?_cons_succ, List.getElem?_cons_zero, Option.join_some, Option.bind_some, Option.map_some, htup, List.set_cons_succ, List.set_cons_zero, e_setO, e_few, Nat.zero_le, h1, e_retS]
end Dat
open PySem PySem.Spec PyProof.Rows L2
namespace Dat
theorem ne_list6 {α : Type} [DecidableEq α] {enc : α → PyData} {n : Nat} (h : ∀ a b, PyData.eqv (enc a) (enc b) = decide (a = b)) (hd : ∀ a, (enc a).depth ≤ n) (xs : List α) (hn : n ≤ 99 := by decide) : dNe (.list (xs.map enc)) (.list (xs.map enc)) = some (.bool false) := by
  unfold dNe
  rw [if_pos (.inl (shalL (Nat.le_trans (depthAll_map (enc := enc) hd xs) hn)))]
  simp only [PyData.eqv]
  rw [eqvAll_map h]
  simp
theorem pairsD_map : ∀ r : List MkD, pairsD (r.map markD) = some r
  | [] => rfl
  | x :: r => by
    have h : pairD (markD x) = some x := rfl
    simp only [List.map_cons, pairsD, h, pairsD_map r]
@[simp] theorem e_isN {d : PyData} : dIsN d = some (.bool (match d with | .none => true | _ => false)) := rfl
/-! ### the law's own going -/
def BTk : Bs := (seqS (ifS (orT (asB (f2 dNotIn (vF 7) (vF 2))) (notT (asB (f1 (dIsi PyData.isTuple) (vF 7))))) (retS (cF (.bool false))) nopS) (setS 6 (f2 dAdd (vF 6) (fL S__law_marks (consA (vF 7) nilA)))))
def BWh : Bs := (seqS (setS 7 (fL S__law_first (consA (vF 8) (consA (vF 2) nilA)))) (ifS (asB (f1 dIsN (vF 7))) (setS 8 (slF dSl (vF 8) (someP (cF (.int 1))) noP)) (seqS (ifS (orT (asB (f2 dEq (vF 9) (fL dLen (consA (vF 5) nilA)))) (asB (f2 dNe (f2 dIx (vF 5) (vF 9)) (vF 7)))) (retS (cF (.bool false))) nopS) (seqS (setS 8 (lstF (lcF (seqA (vF 8)) [10] (tgN 10) (asB (f2 dNotIn (vF 10) (fL S__law_marks (consA (vF 7) nilA)))) (vF 10)))) (setS 9 (f2 dAdd (vF 9) (cF (.int 1))))))))
section
variable (v0 v1 v3 v4 : Option PyData) (ms : List Mt)
theorem loopTk (hok : ∀ m, m ∈ ms → Ok6 m) (found : List Mt) (hf : ∀ m, m ∈ found → m ∈ ms) (hl : (allM found).length ≤ 1000) :
    ∃ w7, forGo (tgN 7) BTk (found.map eMt) [v0, v1, some (.list (ms.map eMt)), v3, v4, some (.list (found.map eMt)), some (.list []), none, none, none, none] =
      some (.nx [v0, v1, some (.list (ms.map eMt)), v3, v4, some (.list (found.map eMt)), some (.list ((allM found).map markD)), w7, none, none, none]) := by
  have go := for_ex (tgt := tgN 7) (B := BTk) eMt (fun pre ρ => ∃ w7, ρ = [v0, v1, some (.list (ms.map eMt)), v3, v4, some (.list (found.map eMt)), some (.list ((allM pre).map markD)), w7, none, none, none]) found [] [v0, v1, some (.list (ms.map eMt)), v3, v4, some (.list (found.map eMt)), some (.list []), none, none, none, none]
    ⟨none, rfl⟩ (fun pre m post ρ e ⟨w7, hρ⟩ => ?_)
  · obtain ⟨ρ', h1, w7, h2⟩ := go
    subst h2
    exact ⟨w7, h1⟩
  · rw [List.nil_append] at e
    subst hρ
    have hm : m ∈ ms := hf m (by rw [e]; simp)
    have h1 := lmarks_eq (hok m hm).1
    have h2 := notIn_list eqv_mt depth_mt ms m
    have h3 : PyData.isTuple (eMt m) = true := rfl
    have hlen : ((allM pre).map markD).length + ((marksM m).map markD).length ≤ 16777216 := by
      have : (allM found).length = (allM pre).length + ((marksM m).length + (allM post).length) := by
        rw [e]; simp [allM]
      simp only [List.length_map]
      omega
    refine ⟨_, ?_, some (eMt m), rfl⟩
    unfold BTk
    simp only [e_tgN, Option.bind_some, List.set_cons_succ, List.set_cons_zero, e_seqS, e_ifS, e_orT, e_asB, e_f2, e_f1, e_vF, List.getElem?_cons_succ, List.getElem?_cons_zero, Option.join_some, h2, hm, decide_true, Bool.not_true, e_notT, e_dIsi, h3, Option.map_some, e_nopS, e_setS, e_fL, e_consA, e_nilA, h1, e_dAddL, hlen, if_true]
    rw [← List.map_append]
    simp [allM]
theorem turnWh {found : List Mt} {taken w7 w10 : Option PyData} (hok : ∀ m, m ∈ ms → Ok6 m) (hl : ms.length < 12) {x : MkD} {tl : List MkD} (hr : (x :: tl).Nodup) {k : Nat} (hk : found.drop k = pk ms (x :: tl)) :
    ∃ u7, BWh [v0, v1, some (.list (ms.map eMt)), v3, v4, some (.list (found.map eMt)), taken, w7, some (.list ((x :: tl).map markD)), some (.int (k : Nat)), none] =
      some (.nx (match nxt ms (x :: tl) with
        | none => [v0, v1, some (.list (ms.map eMt)), v3, v4, some (.list (found.map eMt)), taken, u7, some (.list (tl.map markD)), some (.int (k : Nat)), none]
        | some m => [v0, v1, some (.list (ms.map eMt)), v3, v4, some (.list (found.map eMt)), taken, u7, some (.list ((wo (x :: tl) m).map markD)), some (.int ((k + 1 : Nat) : Int)), none])) := by
  have h1 := first_eq hr (by simp) hok hl
  have S7 : (setS 7 (fL S__law_first (consA (vF 8) (consA (vF 2) nilA)))) [v0, v1, some (.list (ms.map eMt)), v3, v4, some (.list (found.map eMt)), taken, w7, some (.list ((x :: tl).map markD)), some (.int (k : Nat)), none] = some (.nx [v0, v1, some (.list (ms.map eMt)), v3, v4, some (.list (found.map eMt)), taken, some (encO (nxt ms (x :: tl))), some (.list ((x :: tl).map markD)), some (.int (k : Nat)), none]) := by
    simp only [e_setS, e_fL, e_consA, e_nilA, e_vF, List.getElem?_cons_succ, List.getElem?_cons_zero, Option.join_some, Option.bind_some, Option.map_some, h1, List.set_cons_succ, List.set_cons_zero]
  refine ⟨some (encO (nxt ms (x :: tl))), ?_⟩
  unfold BWh
  simp only [e_seqS, S7, e_ifS]
  cases e : nxt ms (x :: tl) with
  | none =>
    have hc := cut_from markD (x :: tl) 1 (by simp)
    have hc' : dSl (.list ((x :: tl).map markD)) (some 1) none = some (.list (tl.map markD)) := hc
    simp only [e_asB, e_f1, e_vF, List.getElem?_cons_succ, List.getElem?_cons_zero, Option.join_some, Option.bind_some, encO, e_isN, e_setS, e_slF, e_someP, e_cF, e_noP, hc', Option.map_some, List.set_cons_succ, List.set_cons_zero]
  | some m =>
    have hm := (nxt_some e).1
    have hd : found.drop k = m :: pk ms (wo (x :: tl) m) := by rw [hk, pk_some e]
    have hklt : k < found.length := Classical.byContradiction fun z => by
      rw [List.drop_eq_nil_of_le (by omega)] at hd; cases hd
    have hget : found[k]? = some m := by
      rw [List.drop_eq_getElem_cons hklt] at hd
      rw [List.getElem?_eq_getElem hklt]
      exact congrArg some (List.cons.inj hd).1
    have hat : dIx (.list (found.map eMt)) (.int (k : Nat)) = some (eMt m) := atI_nat (by simp [hget])
    have hne : dNe (eMt m) (eMt m) = some (.bool false) := by
      have := ne_enc eqv_mt depth_mt m m
      simpa using this
    have hkn : ((k : Nat) : Int) ≠ ((found.length : Nat) : Int) := by omega
    have h2 := lmarks_eq (hok m hm).1
    have lc : lcGo (tgN 10) (asB (f2 dNotIn (vF 10) (fL S__law_marks (consA (vF 7) nilA)))) (vF 10) [v0, v1, some (.list (ms.map eMt)), v3, v4, some (.list (found.map eMt)), taken, some (eMt m), some (.list ((x :: tl).map markD)), some (.int (k : Nat)), none] ((x :: tl).map markD) = some ((wo (x :: tl) m).map markD) :=
      lc_filter markD markD (fun y => !decide (y ∈ marksM m)) (x :: tl) fun y hy => ⟨_, rfl, by
        have h := notIn_list eqv_markD depth_markD (marksM m) y
        simp [h2, h], fun _ => by simp⟩
    simp only [e_asB, e_f1, e_f2, e_vF, List.getElem?_cons_succ, List.getElem?_cons_zero, Option.join_some, Option.bind_some, encO, e_isN, eMt, eP, e_seqS, e_orT, e_fL, e_consA, e_nilA, Option.map_some]
    have hat' : dIx (.list (found.map eMt)) (.int (k : Nat)) = some (.tuple [.tuple (eI m.1), .tuple (eI m.2)]) := hat
    have hne' : dNe (.tuple [.tuple (eI m.1), .tuple (eI m.2)]) (.tuple [.tuple (eI m.1), .tuple (eI m.2)]) = some (.bool false) := hne
    have lc' : lcGo (tgN 10) (asB (f2 dNotIn (vF 10) (fL S__law_marks (consA (vF 7) nilA)))) (vF 10) [v0, v1, some (.list (ms.map eMt)), v3, v4, some (.list (found.map eMt)), taken, some (.tuple [.tuple (eI m.1), .tuple (eI m.2)]), some (.list ((x :: tl).map markD)), some (.int (k : Nat)), none] ((x :: tl).map markD) = some ((wo (x :: tl) m).map markD) := lc
    simp only [e_lenL, List.length_map, e_eqI, hkn, decide_false, hat', hne', Option.bind_some, e_ifS, e_asB, e_orT, e_f2, e_nopS, e_setS, e_lstF, e_lcF, e_seqA, e_vF, e_cF, e_fL, e_consA, e_nilA, Option.map_some, List.getElem?_cons_succ, List.getElem?_cons_zero, Option.join_some, e_wipeC, e_wipeN, List.set_cons_succ, List.set_cons_zero, lc', e_dAdd, ne_eq, not_true, not_false_iff]
    rfl
theorem loopWh' {found : List Mt} {taken : Option PyData} (w7 : Option PyData) (hok : ∀ m, m ∈ ms → Ok6 m) (hl : ms.length < 12) {G : List MkD} (hG : G.length ≤ 10) (hn : G.Nodup) (hf : found = pk ms G) :
    ∃ u7 u8 : Option PyData, whGo (asB (f2 dNe (vF 8) (lstF (few nilA)))) BWh 100000 [v0, v1, some (.list (ms.map eMt)), v3, v4, some (.list (found.map eMt)), taken, w7, some (.list (G.map markD)), some (.int ((0 : Nat) : Int)), none] = some (.nx [v0, v1, some (.list (ms.map eMt)), v3, v4, some (.list (found.map eMt)), taken, u7, u8, some (.int (found.length : Nat)), none]) := by
  have hC : ∀ (rest : List MkD) (w7 w9 : Option PyData), (asB (f2 dNe (vF 8) (lstF (few nilA)))) [v0, v1, some (.list (ms.map eMt)), v3, v4, some (.list (found.map eMt)), taken, w7, some (.list (rest.map markD)), w9, none] = some (!rest.isEmpty) := fun rest w7 w9 => by
    simp [isE_map]
  obtain ⟨ρ', h1, ⟨rest, k, w7, e, hs, hk⟩, h3⟩ := wh_ex (C := asB (f2 dNe (vF 8) (lstF (few nilA)))) (B := BWh)
    (fun ρ => ∃ (rest : List MkD) (k : Nat) (w7 : Option PyData), ρ = [v0, v1, some (.list (ms.map eMt)), v3, v4, some (.list (found.map eMt)), taken, w7, some (.list (rest.map markD)), some (.int (k : Nat)), none] ∧ rest.Sublist G ∧ found.drop k = pk ms rest ∧ k ≤ found.length)
    (fun ρ => match dvGet ρ 8 with | some (.list l) => l.length | _ => 0) (fun ρ ⟨rest, k, w7, e, hs, hk, hkl⟩ => by
      subst e
      rw [hC]
      cases rest with
      | nil => left; rfl
      | cons x tl =>
        right
        obtain ⟨u7, hstep⟩ := turnWh v0 v1 v3 v4 ms (taken := taken) (w7 := w7) (w10 := none) hok hl (hs.nodup hn) hk
        cases hx : nxt ms (x :: tl) with
        | none =>
          rw [hx] at hstep
          refine ⟨by simp, _, hstep, ⟨tl, k, u7, rfl, (List.sublist_cons_self x tl).trans hs, by rw [hk, pk_none hx], hkl⟩, ?_⟩
          show (tl.map markD).length < ((x :: tl).map markD).length
          simp
        | some m =>
          rw [hx] at hstep
          have hsh := wo_short (nxt_some hx).2.1
          simp only [List.length_cons] at hsh
          rw [pk_some hx] at hk
          have hklt : k < found.length := Classical.byContradiction fun z => by
            rw [List.drop_eq_nil_of_le (by omega)] at hk; cases hk
          refine ⟨by simp, _, hstep, ⟨wo (x :: tl) m, k + 1, u7, rfl, (wo_sub _ m).trans hs, ?_, by omega⟩, ?_⟩
          · rw [List.drop_eq_getElem_cons hklt] at hk
            exact (List.cons.inj hk).2
          · show ((wo (x :: tl) m).map markD).length < ((x :: tl).map markD).length
            simp only [List.length_map, List.length_cons]
            omega) 100000 [v0, v1, some (.list (ms.map eMt)), v3, v4, some (.list (found.map eMt)), taken, w7, some (.list (G.map markD)), some (.int ((0 : Nat) : Int)), none]
    ⟨G, 0, w7, rfl, List.Sublist.refl _, by rw [hf]; rfl, by omega⟩ (by show (G.map markD).length < 100000; rw [List.length_map]; omega)
  subst e
  rw [hC] at h3
  have hrest : rest = [] := by
    cases rest with
    | nil => rfl
    | cons x tl => simp at h3
  subst hrest
  have hke : k = found.length := by
    have := congrArg List.length hk.1
    rw [pk_nil, List.length_drop, List.length_nil] at this
    have := hk.2
    omega
  subst hke
  exact ⟨w7, _, h1⟩
end
theorem law_holds (ns : List Int) (hl : ns.length ≤ 63) : S_law [.list (ns.map .int)] = some (.bool true) := by
  obtain ⟨G, hG, lG, nG⟩ := lgroup_eq ns
  obtain ⟨ms, hM, okM, lM⟩ := lmatches_eq ns G
  have g : ∀ m, m ∈ ms → Gd m := fun m h => (okM m h).2
  have hP := picked_eq okM (show G.length ≤ 10 by omega) nG
  obtain ⟨fam, tot⟩ := pk_fam g _ G (Nat.le_refl _) nG
  have hsz : (allM (pk ms G)).length ≤ G.length := fam.nd.length_le_of_subset fam.sub
  have hmost := most_eq 12 G ms (by omega) fun m h => (okM m h).1
  have n1 : dNe (.list (G.map markD)) (.list (G.map markD)) = some (.bool false) := ne_list6 eqv_markD (n := 1) (fun m => Nat.le_of_eq (depth_markD m)) G
  have n2 : dNe (.list (ms.map eMt)) (.list (ms.map eMt)) = some (.bool false) := ne_list6 eqv_mt (n := 2) (fun m => Nat.le_of_eq (depth_mt m)) ms
  generalize hfd : pk ms G = found at *
  obtain ⟨w7, t1⟩ := loopTk (some (.list (ns.map .int))) (some (.list (G.map markD))) (some (.list (G.map markD))) (some (.list (ms.map eMt))) ms okM found fam.mem (by omega)
  obtain ⟨u7, u8, t2⟩ := loopWh' (some (.list (ns.map .int))) (some (.list (G.map markD))) (some (.list (G.map markD))) (some (.list (ms.map eMt))) ms (found := found) (taken := some (.list ((allM found).map markD))) w7 okM (by omega) (show G.length ≤ 10 by omega) nG hfd.symm
  have hls : dLenSet (.list ((allM found).map markD)) = some (.int ((allM found).length : Nat)) := by
    unfold dLenSet
    simp only [pairsD_map]
    rw [if_pos ⟨fam.nd, by omega⟩]
  unfold BTk at t1
  unfold BWh at t2
  rw [show ((0 : Nat) : Int) = 0 from rfl] at t2
  unfold S_law B_law T_law_1 T_law_2 T_law_3 T_law_4 T_law_5 T_law_6 T_law_7 T_law_8 T_law_9 T_law_10 T_law_11 T_law_12
  simp only [e_runF, e_env0, List.length_cons, List.length_nil, Nat.zero_add, Nat.reduceAdd, if_true, List.map_cons, List.map_nil, List.cons_append, List.nil_append, List.replicate, Nat.reduceSub, e_seqS, e_setS, e_fL, e_consA, e_nilA, e_vF, List.getElem?_cons_succ, List.getElem?_cons_zero, Option.join_some, Option.bind_some, Option.map_some, List.set_cons_succ, List.set_cons_zero, hG, hM, e_lstF, e_dListL, hP, e_ifS, e_orT, e_notT, e_asB, e_f1, e_dIsi, e_isList, Bool.not_true, e_f2, n1, n2, e_nopS, e_few, Nat.zero_le, e_forS, e_seqA, t1, hls, e_lenL, List.length_map, e_neI, decide_true, hmost, tot, e_cF, t2, e_retS, e_eqI]
end Dat
open PySem PySem.Spec PyProof.Rows L2
namespace Dat
theorem all_mk {l : PySem.W.OpenLaw} {w : World} {K : PySem.W.Frag} {h : Heap} {mg : Str → Option Value} {fa : Addr} (X : K.In h) (G : h.Ns mainGlobals mg) (hfa : mg "law" = some (.ref fa))
    {f_marks_of : Addr} {oc_marks_of kV_marks_of dc_marks_of pm_marks_of cd_marks_of ct_marks_of : Value} {od_marks_of an_marks_of : Option Addr} {sl_marks_of : Array (Option Value)}
    {f_without : Addr} {oc_without kV_without dc_without pm_without cd_without ct_without : Value} {od_without an_without : Option Addr} {sl_without : Array (Option Value)}
    {f_is_open : Addr} {oc_is_open kV_is_open dc_is_open pm_is_open cd_is_open ct_is_open : Value} {od_is_open an_is_open : Option Addr} {sl_is_open : Array (Option Value)}
    {f_filled : Addr} {oc_filled kV_filled dc_filled pm_filled cd_filled ct_filled : Value} {od_filled an_filled : Option Addr} {sl_filled : Array (Option Value)}
    {f_table : Addr} {oc_table kV_table dc_table pm_table cd_table ct_table : Value} {od_table an_table : Option Addr} {sl_table : Array (Option Value)}
    {f_picked : Addr} {oc_picked kV_picked dc_picked pm_picked cd_picked ct_picked : Value} {od_picked an_picked : Option Addr} {sl_picked : Array (Option Value)}
    {f__law_cell_at : Addr} {oc__law_cell_at kV__law_cell_at dc__law_cell_at pm__law_cell_at cd__law_cell_at ct__law_cell_at : Value} {od__law_cell_at an__law_cell_at : Option Addr} {sl__law_cell_at : Array (Option Value)}
    {f__law_group : Addr} {oc__law_group kV__law_group dc__law_group pm__law_group cd__law_group ct__law_group : Value} {od__law_group an__law_group : Option Addr} {sl__law_group : Array (Option Value)}
    {f__law_match : Addr} {oc__law_match kV__law_match dc__law_match pm__law_match cd__law_match ct__law_match : Value} {od__law_match an__law_match : Option Addr} {sl__law_match : Array (Option Value)}
    {f__law_matches : Addr} {oc__law_matches kV__law_matches dc__law_matches pm__law_matches cd__law_matches ct__law_matches : Value} {od__law_matches an__law_matches : Option Addr} {sl__law_matches : Array (Option Value)}
    {f__law_marks : Addr} {oc__law_marks kV__law_marks dc__law_marks pm__law_marks cd__law_marks ct__law_marks : Value} {od__law_marks an__law_marks : Option Addr} {sl__law_marks : Array (Option Value)}
    {f__law_most : Addr} {oc__law_most kV__law_most dc__law_most pm__law_most cd__law_most ct__law_most : Value} {od__law_most an__law_most : Option Addr} {sl__law_most : Array (Option Value)}
    {f__law_first : Addr} {oc__law_first kV__law_first dc__law_first pm__law_first cd__law_first ct__law_first : Value} {od__law_first an__law_first : Option Addr} {sl__law_first : Array (Option Value)}
    {f_law : Addr} {oc_law kV_law dc_law pm_law cd_law ct_law : Value} {od_law an_law : Option Addr} {sl_law : Array (Option Value)}
    (a_marks_of : PySem.W.nsIn K mainGlobals "marks_of" = some (some (.ref f_marks_of))) (l_marks_of : K.lookup f_marks_of = some ⟨oc_marks_of, od_marks_of, .func (PySem.W.fnOf "marks_of" "marks_of" (defArgs s_marks_of) (defBody s_marks_of) (defScope s_marks_of) .none kV_marks_of dc_marks_of pm_marks_of an_marks_of cd_marks_of ct_marks_of), sl_marks_of⟩) (c_marks_of : PySem.W.codeIn K cd_marks_of "marks_of" = true) (k_marks_of : PySem.W.keepIn K (.ref f_marks_of) = true)
    (a_without : PySem.W.nsIn K mainGlobals "without" = some (some (.ref f_without))) (l_without : K.lookup f_without = some ⟨oc_without, od_without, .func (PySem.W.fnOf "without" "without" (defArgs s_without) (defBody s_without) (defScope s_without) .none kV_without dc_without pm_without an_without cd_without ct_without), sl_without⟩) (c_without : PySem.W.codeIn K cd_without "without" = true) (k_without : PySem.W.keepIn K (.ref f_without) = true)
    (a_is_open : PySem.W.nsIn K mainGlobals "is_open" = some (some (.ref f_is_open))) (l_is_open : K.lookup f_is_open = some ⟨oc_is_open, od_is_open, .func (PySem.W.fnOf "is_open" "is_open" (defArgs s_is_open) (defBody s_is_open) (defScope s_is_open) .none kV_is_open dc_is_open pm_is_open an_is_open cd_is_open ct_is_open), sl_is_open⟩) (c_is_open : PySem.W.codeIn K cd_is_open "is_open" = true) (k_is_open : PySem.W.keepIn K (.ref f_is_open) = true)
    (a_filled : PySem.W.nsIn K mainGlobals "filled" = some (some (.ref f_filled))) (l_filled : K.lookup f_filled = some ⟨oc_filled, od_filled, .func (PySem.W.fnOf "filled" "filled" (defArgs s_filled) (defBody s_filled) (defScope s_filled) .none kV_filled dc_filled pm_filled an_filled cd_filled ct_filled), sl_filled⟩) (c_filled : PySem.W.codeIn K cd_filled "filled" = true) (k_filled : PySem.W.keepIn K (.ref f_filled) = true)
    (a_table : PySem.W.nsIn K mainGlobals "table" = some (some (.ref f_table))) (l_table : K.lookup f_table = some ⟨oc_table, od_table, .func (PySem.W.fnOf "table" "table" (defArgs s_table) (defBody s_table) (defScope s_table) .none kV_table dc_table pm_table an_table cd_table ct_table), sl_table⟩) (c_table : PySem.W.codeIn K cd_table "table" = true) (k_table : PySem.W.keepIn K (.ref f_table) = true)
    (a_picked : PySem.W.nsIn K mainGlobals "picked" = some (some (.ref f_picked))) (l_picked : K.lookup f_picked = some ⟨oc_picked, od_picked, .func (PySem.W.fnOf "picked" "picked" (defArgs s_picked) (defBody s_picked) (defScope s_picked) .none kV_picked dc_picked pm_picked an_picked cd_picked ct_picked), sl_picked⟩) (c_picked : PySem.W.codeIn K cd_picked "picked" = true) (k_picked : PySem.W.keepIn K (.ref f_picked) = true)
    (a__law_cell_at : PySem.W.nsIn K mainGlobals "_law_cell_at" = some (some (.ref f__law_cell_at))) (l__law_cell_at : K.lookup f__law_cell_at = some ⟨oc__law_cell_at, od__law_cell_at, .func (PySem.W.fnOf "_law_cell_at" "_law_cell_at" (defArgs s__law_cell_at) (defBody s__law_cell_at) (defScope s__law_cell_at) .none kV__law_cell_at dc__law_cell_at pm__law_cell_at an__law_cell_at cd__law_cell_at ct__law_cell_at), sl__law_cell_at⟩) (c__law_cell_at : PySem.W.codeIn K cd__law_cell_at "_law_cell_at" = true) (k__law_cell_at : PySem.W.keepIn K (.ref f__law_cell_at) = true)
    (a__law_group : PySem.W.nsIn K mainGlobals "_law_group" = some (some (.ref f__law_group))) (l__law_group : K.lookup f__law_group = some ⟨oc__law_group, od__law_group, .func (PySem.W.fnOf "_law_group" "_law_group" (defArgs s__law_group) (defBody s__law_group) (defScope s__law_group) .none kV__law_group dc__law_group pm__law_group an__law_group cd__law_group ct__law_group), sl__law_group⟩) (c__law_group : PySem.W.codeIn K cd__law_group "_law_group" = true) (k__law_group : PySem.W.keepIn K (.ref f__law_group) = true)
    (a__law_match : PySem.W.nsIn K mainGlobals "_law_match" = some (some (.ref f__law_match))) (l__law_match : K.lookup f__law_match = some ⟨oc__law_match, od__law_match, .func (PySem.W.fnOf "_law_match" "_law_match" (defArgs s__law_match) (defBody s__law_match) (defScope s__law_match) .none kV__law_match dc__law_match pm__law_match an__law_match cd__law_match ct__law_match), sl__law_match⟩) (c__law_match : PySem.W.codeIn K cd__law_match "_law_match" = true) (k__law_match : PySem.W.keepIn K (.ref f__law_match) = true)
    (a__law_matches : PySem.W.nsIn K mainGlobals "_law_matches" = some (some (.ref f__law_matches))) (l__law_matches : K.lookup f__law_matches = some ⟨oc__law_matches, od__law_matches, .func (PySem.W.fnOf "_law_matches" "_law_matches" (defArgs s__law_matches) (defBody s__law_matches) (defScope s__law_matches) .none kV__law_matches dc__law_matches pm__law_matches an__law_matches cd__law_matches ct__law_matches), sl__law_matches⟩) (c__law_matches : PySem.W.codeIn K cd__law_matches "_law_matches" = true) (k__law_matches : PySem.W.keepIn K (.ref f__law_matches) = true)
    (a__law_marks : PySem.W.nsIn K mainGlobals "_law_marks" = some (some (.ref f__law_marks))) (l__law_marks : K.lookup f__law_marks = some ⟨oc__law_marks, od__law_marks, .func (PySem.W.fnOf "_law_marks" "_law_marks" (defArgs s__law_marks) (defBody s__law_marks) (defScope s__law_marks) .none kV__law_marks dc__law_marks pm__law_marks an__law_marks cd__law_marks ct__law_marks), sl__law_marks⟩) (c__law_marks : PySem.W.codeIn K cd__law_marks "_law_marks" = true) (k__law_marks : PySem.W.keepIn K (.ref f__law_marks) = true)
    (a__law_most : PySem.W.nsIn K mainGlobals "_law_most" = some (some (.ref f__law_most))) (l__law_most : K.lookup f__law_most = some ⟨oc__law_most, od__law_most, .func (PySem.W.fnOf "_law_most" "_law_most" (defArgs s__law_most) (defBody s__law_most) (defScope s__law_most) .none kV__law_most dc__law_most pm__law_most an__law_most cd__law_most ct__law_most), sl__law_most⟩) (c__law_most : PySem.W.codeIn K cd__law_most "_law_most" = true) (k__law_most : PySem.W.keepIn K (.ref f__law_most) = true)
    (a__law_first : PySem.W.nsIn K mainGlobals "_law_first" = some (some (.ref f__law_first))) (l__law_first : K.lookup f__law_first = some ⟨oc__law_first, od__law_first, .func (PySem.W.fnOf "_law_first" "_law_first" (defArgs s__law_first) (defBody s__law_first) (defScope s__law_first) .none kV__law_first dc__law_first pm__law_first an__law_first cd__law_first ct__law_first), sl__law_first⟩) (c__law_first : PySem.W.codeIn K cd__law_first "_law_first" = true) (k__law_first : PySem.W.keepIn K (.ref f__law_first) = true)
    (a_law : PySem.W.nsIn K mainGlobals "law" = some (some (.ref f_law))) (l_law : K.lookup f_law = some ⟨oc_law, od_law, .func (PySem.W.fnOf "law" "law" (defArgs s_law) (defBody s_law) (defScope s_law) .none kV_law dc_law pm_law an_law cd_law ct_law), sl_law⟩) (c_law : PySem.W.codeIn K cd_law "law" = true) (k_law : PySem.W.keepIn K (.ref f_law) = true)
    (z_tuple : PySem.W.nsIn K mainGlobals "tuple" = some none)
    (z_all : PySem.W.nsIn K mainGlobals "all" = some none)
    (z_len : PySem.W.nsIn K mainGlobals "len" = some none)
    (z_min : PySem.W.nsIn K mainGlobals "min" = some none)
    (z_range : PySem.W.nsIn K mainGlobals "range" = some none)
    (z_sorted : PySem.W.nsIn K mainGlobals "sorted" = some none)
    (z_set : PySem.W.nsIn K mainGlobals "set" = some none)
    (z_enumerate : PySem.W.nsIn K mainGlobals "enumerate" = some none)
    (z_max : PySem.W.nsIn K mainGlobals "max" = some none)
    (z_list : PySem.W.nsIn K mainGlobals "list" = some none)
    (z_isinstance : PySem.W.nsIn K mainGlobals "isinstance" = some none) :
    ∃ fd : FuncData, (∀ (s : Shared) (v : Value), BindsTo s fd ⟨[v], []⟩ [("_law_script", v)]) ∧ ∀ base : Heap, K.In base → base.Ns mainGlobals mg → FnOk l.prog w K mg base CX0 17 fa fd ["_law_script"] (spD K S_law) := by
  have e := hfa.symm.trans (PySem.W.mg_of X G a_law)
  cases e
  have h_marks_of := here_mk (x := "marks_of") (st := s_marks_of) (ps := ["match"]) X G a_marks_of l_marks_of c_marks_of k_marks_of (fun _ _ _ _ _ _ us hl => match us, hl with | [_], _ => rfl)
  have h_without := here_mk (x := "without") (st := s_without) (ps := ["rest", "match"]) X G a_without l_without c_without k_without (fun _ _ _ _ _ _ us hl => match us, hl with | [_, _], _ => rfl)
  have h_is_open := here_mk (x := "is_open") (st := s_is_open) (ps := ["rest", "match"]) X G a_is_open l_is_open c_is_open k_is_open (fun _ _ _ _ _ _ us hl => match us, hl with | [_, _], _ => rfl)
  have h_filled := here_mk (x := "filled") (st := s_filled) (ps := ["found", "rest", "matches"]) X G a_filled l_filled c_filled k_filled (fun _ _ _ _ _ _ us hl => match us, hl with | [_, _, _], _ => rfl)
  have h_table := here_mk (x := "table") (st := s_table) (ps := ["group", "matches"]) X G a_table l_table c_table k_table (fun _ _ _ _ _ _ us hl => match us, hl with | [_, _], _ => rfl)
  have h_picked := here_mk (x := "picked") (st := s_picked) (ps := ["group", "matches"]) X G a_picked l_picked c_picked k_picked (fun _ _ _ _ _ _ us hl => match us, hl with | [_, _], _ => rfl)
  have h__law_cell_at := here_mk (x := "_law_cell_at") (st := s__law_cell_at) (ps := ["_law_script", "_law_k"]) X G a__law_cell_at l__law_cell_at c__law_cell_at k__law_cell_at (fun _ _ _ _ _ _ us hl => match us, hl with | [_, _], _ => rfl)
  have h__law_group := here_mk (x := "_law_group") (st := s__law_group) (ps := ["_law_script"]) X G a__law_group l__law_group c__law_group k__law_group (fun _ _ _ _ _ _ us hl => match us, hl with | [_], _ => rfl)
  have h__law_match := here_mk (x := "_law_match") (st := s__law_match) (ps := ["_law_cell", "_law_group_here"]) X G a__law_match l__law_match c__law_match k__law_match (fun _ _ _ _ _ _ us hl => match us, hl with | [_, _], _ => rfl)
  have h__law_matches := here_mk (x := "_law_matches") (st := s__law_matches) (ps := ["_law_script", "_law_group_here"]) X G a__law_matches l__law_matches c__law_matches k__law_matches (fun _ _ _ _ _ _ us hl => match us, hl with | [_, _], _ => rfl)
  have h__law_marks := here_mk (x := "_law_marks") (st := s__law_marks) (ps := ["_law_match_here"]) X G a__law_marks l__law_marks c__law_marks k__law_marks (fun _ _ _ _ _ _ us hl => match us, hl with | [_], _ => rfl)
  have h__law_most := here_mk (x := "_law_most") (st := s__law_most) (ps := ["_law_rest", "_law_matches_here"]) X G a__law_most l__law_most c__law_most k__law_most (fun _ _ _ _ _ _ us hl => match us, hl with | [_, _], _ => rfl)
  have h__law_first := here_mk (x := "_law_first") (st := s__law_first) (ps := ["_law_rest", "_law_matches_here"]) X G a__law_first l__law_first c__law_first k__law_first (fun _ _ _ _ _ _ us hl => match us, hl with | [_, _], _ => rfl)
  have h_law := here_mk (x := "law") (st := s_law) (ps := ["_law_script"]) X G a_law l_law c_law k_law (fun _ _ _ _ _ _ us hl => match us, hl with | [_], _ => rfl)
  have m_tuple := PySem.W.mg_none_of X G z_tuple
  have m_all := PySem.W.mg_none_of X G z_all
  have m_len := PySem.W.mg_none_of X G z_len
  have m_min := PySem.W.mg_none_of X G z_min
  have m_range := PySem.W.mg_none_of X G z_range
  have m_sorted := PySem.W.mg_none_of X G z_sorted
  have m_set := PySem.W.mg_none_of X G z_set
  have m_enumerate := PySem.W.mg_none_of X G z_enumerate
  have m_max := PySem.W.mg_none_of X G z_max
  have m_list := PySem.W.mg_none_of X G z_list
  have m_isinstance := PySem.W.mg_none_of X G z_isinstance
  refine ⟨PySem.W.fnOf "law" "law" (defArgs s_law) (defBody s_law) (defScope s_law) .none kV_law dc_law pm_law an_law cd_law ct_law, fun s v => .of_eq rfl, fun base _ _ => ?_⟩
  have c_marks_of := kd_marks_of (P := l.prog) (w := w) (base := base) h_marks_of  
  have c_without := kd_without (P := l.prog) (w := w) (base := base) h_without m_tuple c_marks_of
  have c_is_open := kd_is_open (P := l.prog) (w := w) (base := base) h_is_open m_all c_marks_of
  have c_filled := kd_filled (P := l.prog) (w := w) (base := base) h_filled m_len m_min c_is_open c_without
  have c_table := kd_table (P := l.prog) (w := w) (base := base) h_table m_tuple c_filled
  have c_picked := kd_picked (P := l.prog) (w := w) (base := base) h_picked m_tuple m_len c_table c_is_open c_without
  have c__law_cell_at := kd__law_cell_at (P := l.prog) (w := w) (base := base) h__law_cell_at m_len 
  have c__law_group := kd__law_group (P := l.prog) (w := w) (base := base) h__law_group m_range m_len c__law_cell_at
  have c__law_match := kd__law_match (P := l.prog) (w := w) (base := base) h__law_match m_sorted m_set m_range m_len m_tuple 
  have c__law_matches := kd__law_matches (P := l.prog) (w := w) (base := base) h__law_matches m_range m_len m_sorted c__law_cell_at c__law_match
  have c__law_marks := kd__law_marks (P := l.prog) (w := w) (base := base) h__law_marks  
  have c__law_most := kd__law_most (P := l.prog) (w := w) (base := base) h__law_most m_enumerate m_max m_len c__law_marks
  have c__law_first := kd__law_first (P := l.prog) (w := w) (base := base) h__law_first m_len c__law_most c__law_marks
  exact ok_law h_law m_list m_isinstance m_tuple m_len m_set c__law_group c__law_matches c_picked c__law_marks c__law_most c__law_first
end Dat
open PySem PySem.W PyProof.Rows
set_option maxRecDepth 100000 in
set_option maxHeartbeats 0 in
theorem PySem.Challenge.cw_tickoff_k06_whole_picked_holds : PySem.Challenge.rw_tickoff_k06_whole_picked.Holds := by
  w_on; o_law; k_head; (case hw => w_witness2)
  k_fill
  refine L2.walk_of (l := PySem.Challenge.rw_tickoff_k06_whole_picked) (n := 63) (k := 17) (x := "_law_script") (CX := fun _ => L2.CX0) (sp := fun w => Dat.spD _ Dat.S_law) rfl (by decide) rfl ⟨rfl, by decide, by decide⟩ (fun w h Y => PySem.W.kIn_of Y) ?F (fun _ _ a ns hl _ hS => Dat.law_sp Dat.law_holds hl hS _ _ fun _ => rfl) fun _ _ _ _ _ z => z
  case F =>
    intro w mg fa h KX G hmg
    refine' Dat.all_mk KX G hmg ?a_marks_of ?l_marks_of ?c_marks_of ?k_marks_of ?a_without ?l_without ?c_without ?k_without ?a_is_open ?l_is_open ?c_is_open ?k_is_open ?a_filled ?l_filled ?c_filled ?k_filled ?a_table ?l_table ?c_table ?k_table ?a_picked ?l_picked ?c_picked ?k_picked ?a__law_cell_at ?l__law_cell_at ?c__law_cell_at ?k__law_cell_at ?a__law_group ?l__law_group ?c__law_group ?k__law_group ?a__law_match ?l__law_match ?c__law_match ?k__law_match ?a__law_matches ?l__law_matches ?c__law_matches ?k__law_matches ?a__law_marks ?l__law_marks ?c__law_marks ?k__law_marks ?a__law_most ?l__law_most ?c__law_most ?k__law_most ?a__law_first ?l__law_first ?c__law_first ?k__law_first ?a_law ?l_law ?c_law ?k_law ?z_tuple ?z_all ?z_len ?z_min ?z_range ?z_sorted ?z_set ?z_enumerate ?z_max ?z_list ?z_isinstance
    (case a_marks_of => k_is)
    (case l_marks_of => k_is)
    (case c_marks_of => k_is)
    (case k_marks_of => k_is)
    (case a_without => k_is)
    (case l_without => k_is)
    (case c_without => k_is)
    (case k_without => k_is)
    (case a_is_open => k_is)
    (case l_is_open => k_is)
    (case c_is_open => k_is)
    (case k_is_open => k_is)
    (case a_filled => k_is)
    (case l_filled => k_is)
    (case c_filled => k_is)
    (case k_filled => k_is)
    (case a_table => k_is)
    (case l_table => k_is)
    (case c_table => k_is)
    (case k_table => k_is)
    (case a_picked => k_is)
    (case l_picked => k_is)
    (case c_picked => k_is)
    (case k_picked => k_is)
    (case a__law_cell_at => k_is)
    (case l__law_cell_at => k_is)
    (case c__law_cell_at => k_is)
    (case k__law_cell_at => k_is)
    (case a__law_group => k_is)
    (case l__law_group => k_is)
    (case c__law_group => k_is)
    (case k__law_group => k_is)
    (case a__law_match => k_is)
    (case l__law_match => k_is)
    (case c__law_match => k_is)
    (case k__law_match => k_is)
    (case a__law_matches => k_is)
    (case l__law_matches => k_is)
    (case c__law_matches => k_is)
    (case k__law_matches => k_is)
    (case a__law_marks => k_is)
    (case l__law_marks => k_is)
    (case c__law_marks => k_is)
    (case k__law_marks => k_is)
    (case a__law_most => k_is)
    (case l__law_most => k_is)
    (case c__law_most => k_is)
    (case k__law_most => k_is)
    (case a__law_first => k_is)
    (case l__law_first => k_is)
    (case c__law_first => k_is)
    (case k__law_first => k_is)
    (case a_law => k_is)
    (case l_law => k_is)
    (case c_law => k_is)
    (case k_law => k_is)
    (case z_tuple => k_is)
    (case z_all => k_is)
    (case z_len => k_is)
    (case z_min => k_is)
    (case z_range => k_is)
    (case z_sorted => k_is)
    (case z_set => k_is)
    (case z_enumerate => k_is)
    (case z_max => k_is)
    (case z_list => k_is)
    (case z_isinstance => k_is)
