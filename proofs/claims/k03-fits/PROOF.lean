import PyProof.Rows.All
import Wide.All
import OpenK.AllK
import Wide.FinOn
import HandS.ForMost
import HandS.Deep
import HandS.SortKw
import HandS.IsInst
import HandS.Flow
import HandS.Wide
import KE.DataEq
import KE.DataCmp
import KE.DataAny
import KE.DataIsa
import KE.DataMinMax
import KE.SortData
import KE.SortKeyHeap
import KE.KDictKeyed
import HandS.Conv
import PySem.Challenge.RW_tickoff_k03_fits
set_option Elab.async false
set_option linter.all false
set_option maxRecDepth 100000
set_option autoImplicit false
set_option maxHeartbeats 4000000
/-! Dat: defs over plain data. G is the part of the heap that never changes again; H the heap. -/
open PySem PySem.Spec PyProof.Rows L2
namespace Dat

/-! ### heaps -/
structure Stp (G H G' H' : Hp) : Prop where
  hh : Same H H'
  gg : Same G G'
  gh : Same G' H'
  sep : ∀ a, H a ≠ none → G a = none → G' a = none
theorem Stp.refl {G H : Hp} (h : Same G H) : Stp G H G H := ⟨Same.refl _, Same.refl _, h, fun _ _ e => e⟩
theorem Stp.trans {G H G1 H1 G2 H2 : Hp} (a : Stp G H G1 H1) (b : Stp G1 H1 G2 H2) : Stp G H G2 H2 :=
  ⟨a.hh.trans b.hh, a.gg.trans b.gg, b.gh, fun c n e => b.sep c (fun z => n (a.hh.free z)) (a.sep c n e)⟩
theorem same_new {H : Hp} {p : Addr} {o : HO} (n : H p = none) : Same H (upd H p o) := fun b u e => by
  rw [upd_ne (ne_of_none e n)]; exact e
theorem Stp.new {G H : Hp} {p : Addr} {o : HO} (h : Same G H) (n : H p = none) : Stp G H G (upd H p o) :=
  ⟨same_new n, Same.refl _, h.trans (same_new n), fun _ _ e => e⟩
theorem Stp.frz {G H G' H' : Hp} {p : Addr} {o : HO} (s : Stp G H G' H') (n : H p = none) (g : G' p = none) (e : H' p = some o) : Stp G H (upd G' p o) H' := by
  refine ⟨s.hh, fun a u q => ?_, fun a u q => ?_, fun a hn q => ?_⟩
  · rw [upd_ne (ne_of_none (s.gg a u q) g)]; exact s.gg a u q
  · by_cases h : a = p
    · subst h; rw [upd_same] at q; cases q; exact e
    · rw [upd_ne h] at q; exact s.gh a u q
  · have h : a ≠ p := fun z => hn (by rw [z]; exact n)
    rw [upd_ne h]; exact s.sep a hn q
theorem Stp.newF {G H : Hp} {p : Addr} {o : HO} (h : Same G H) (n : H p = none) : Stp G H (upd G p o) (upd H p o) :=
  (Stp.new h n).frz n (h.free n) upd_same
theorem seqT_same {K : PySem.W.Frag} {H H' : Hp} {a : Addr} {xs : List V} (e : Same H H') (h : SqT K H a xs) : SqT K H' a xs := by
  rcases h with (h | ⟨o, h⟩) | h
  · exact .inl (.inl (e _ _ h))
  · exact .inl (.inr ⟨o, e _ _ h⟩)
  · exact .inr h
mutual
theorem dp_mono {K : PySem.W.Frag} {G H : Hp} (s : Same G H) : ∀ (d : PyData) (v : V), Dp K G v d → Dp K H v d
  | .none, _, h => by cases h; exact .non
  | .bool _, _, h => by cases h; exact .bl _
  | .int _, _, h => by cases h; exact .int _
  | .str _, _, h => by cases h; exact .str _
  | .list ds, _, h => by cases h with | lst a b => exact .lst (s.seq a) (dpAll_mono s ds _ b)
  | .tuple ds, _, h => by cases h with | tup a b => exact .tup (seqT_same s a) (dpAll_mono s ds _ b)
  | .dict _, _, h => by cases h
theorem dpAll_mono {K : PySem.W.Frag} {G H : Hp} (s : Same G H) : ∀ (ds : List PyData) (vs : List V), DpAll K G vs ds → DpAll K H vs ds
  | [], _, h => by cases h; exact .nil
  | d :: ds, _, h => by cases h with | cons a b => exact .cons (dp_mono s d _ a) (dpAll_mono s ds _ b)
end
mutual
theorem dp_plain {K : PySem.W.Frag} {G : Hp} : ∀ (d : PyData) (v : V), Dp K G v d → d.plain = true
  | .none, _, _ => rfl
  | .bool _, _, _ => rfl
  | .int _, _, _ => rfl
  | .str _, _, _ => rfl
  | .list ds, _, h => by cases h with | lst a b => simp only [PyData.plain]; exact dpAll_plain ds _ b
  | .tuple ds, _, h => by cases h with | tup a b => simp only [PyData.plain]; exact dpAll_plain ds _ b
  | .dict _, _, h => by cases h
theorem dpAll_plain {K : PySem.W.Frag} {G : Hp} : ∀ (ds : List PyData) (vs : List V), DpAll K G vs ds → PyData.plainAll ds = true
  | [], _, _ => rfl
  | d :: ds, _, h => by cases h with | cons a b => simp only [PyData.plainAll, dp_plain d _ a, dpAll_plain ds _ b, Bool.and_self]
end
end Dat
namespace L2
theorem DpAll.length {K : PySem.W.Frag} {G : Hp} : ∀ {vs : List V} {ds : List PyData}, DpAll K G vs ds → vs.length = ds.length
  | _, _, .nil => rfl
  | _, _, .cons _ t => by simp only [List.length_cons, DpAll.length t]
theorem DpAll.get {K : PySem.W.Frag} {G : Hp} : ∀ {vs : List V} {ds : List PyData} {i : Nat} {d : PyData}, DpAll K G vs ds → ds[i]? = some d → ∃ v, vs[i]? = some v ∧ Dp K G v d
  | _, _, _, _, .nil, e => by simp at e
  | _, _, 0, _, .cons r _, e => by simp at e; subst e; exact ⟨_, rfl, r⟩
  | _, _, i + 1, _, .cons _ t, e => by
    obtain ⟨v, h1, h2⟩ := DpAll.get (i := i) t (by simpa using e)
    exact ⟨v, by simpa using h1, h2⟩
theorem DpAll.getV {K : PySem.W.Frag} {G : Hp} {vs : List V} {ds : List PyData} {i : Nat} {v : V} (h : DpAll K G vs ds) (e : vs[i]? = some v) : ∃ d, ds[i]? = some d ∧ Dp K G v d := by
  have hl : i < ds.length := by rw [← h.length]; exact (List.getElem?_eq_some_iff.mp e).1
  obtain ⟨v', h1, h2⟩ := h.get (List.getElem?_eq_getElem hl)
  rw [e] at h1; cases h1
  exact ⟨_, List.getElem?_eq_getElem hl, h2⟩
theorem DpAll.append {K : PySem.W.Frag} {G : Hp} : ∀ {vs ws : List V} {ds es : List PyData}, DpAll K G vs ds → DpAll K G ws es → DpAll K G (vs ++ ws) (ds ++ es)
  | _, _, _, _, .nil, s => s
  | _, _, _, _, .cons r t, s => .cons r (DpAll.append t s)
theorem DpAll.take {K : PySem.W.Frag} {G : Hp} : ∀ {vs : List V} {ds : List PyData} (n : Nat), DpAll K G vs ds → DpAll K G (vs.take n) (ds.take n)
  | _, _, 0, _ => .nil
  | _, _, _ + 1, .nil => .nil
  | _, _, n + 1, .cons r t => .cons r (DpAll.take n t)
theorem DpAll.drop {K : PySem.W.Frag} {G : Hp} : ∀ {vs : List V} {ds : List PyData} (n : Nat), DpAll K G vs ds → DpAll K G (vs.drop n) (ds.drop n)
  | _, _, 0, r => r
  | _, _, _ + 1, .nil => .nil
  | _, _, n + 1, .cons _ t => DpAll.drop n t
theorem DpAll.eraseIdx {K : PySem.W.Frag} {G : Hp} : ∀ {vs : List V} {ds : List PyData} (i : Nat), DpAll K G vs ds → DpAll K G (vs.eraseIdx i) (ds.eraseIdx i)
  | _, _, _, .nil => .nil
  | _, _, 0, .cons _ t => t
  | _, _, i + 1, .cons r t => .cons r (DpAll.eraseIdx i t)
theorem DpAll.set {K : PySem.W.Frag} {G : Hp} {v : V} {d : PyData} (r : Dp K G v d) : ∀ {vs : List V} {ds : List PyData} (i : Nat), DpAll K G vs ds → DpAll K G (vs.set i v) (ds.set i d)
  | _, _, _, .nil => .nil
  | _, _, 0, .cons _ t => .cons r t
  | _, _, i + 1, .cons q t => .cons q (DpAll.set r i t)
theorem DpAll.rev {K : PySem.W.Frag} {G : Hp} : ∀ {vs : List V} {ds : List PyData}, DpAll K G vs ds → DpAll K G vs.reverse ds.reverse
  | _, _, .nil => .nil
  | _, _, .cons r t => by rw [List.reverse_cons, List.reverse_cons]; exact (DpAll.rev t).append (.cons r .nil)

end L2
namespace Dat
/-! ### what is a def's own -/
/-- kinds: a list; a list of lists of its own; a table (a dict keyed by tuples); an instance of the class at C; a dict keyed by texts, some of whose values are lists of its own -/
inductive Kd where
  | lst | lol | tab (w : World) | obj (C : Addr) | sd (ks : List Str)
def Kd.isL : Kd → Bool
  | .lst => true
  | .lol => true
  | _ => false
/-- lists at the addresses qs -/
inductive Lols (K : PySem.W.Frag) (G H : Hp) : List Addr → List PyData → Prop
  | nil : Lols K G H [] []
  | cons {q : Addr} {qs : List Addr} {xs : List V} {es : List PyData} {ds : List PyData} : H q = some (.lst xs) → DpAll K G xs es → Lols K G H qs ds → Lols K G H (q :: qs) (.list es :: ds)
/-- a thing of its own: its value, the addresses that are its own, the data -/
inductive Own (K : PySem.W.Frag) (G H : Hp) : Kd → V → List Addr → PyData → Prop
  | lst {p : Addr} {xs : List V} {ds : List PyData} : H p = some (.lst xs) → DpAll K G xs ds → Own K G H .lst (.ref p) [p] (.list ds)
  | lol {p : Addr} {qs : List Addr} {ds : List PyData} : H p = some (.lst (qs.map V.ref)) → Lols K G H qs ds → (p :: qs).Nodup → Own K G H .lol (.ref p) (p :: qs) (.list ds)
theorem Lols.frame {K : PySem.W.Frag} {G G' H H' : Hp} (gg : Same G G') : ∀ {qs : List Addr} {ds : List PyData}, (∀ a, a ∈ qs → H' a = H a) → Lols K G H qs ds → Lols K G' H' qs ds
  | _, _, _, .nil => .nil
  | _, _, f, .cons h d t => .cons (by rw [f _ (by simp)]; exact h) (dpAll_mono gg _ _ d) (Lols.frame gg (fun a ha => f a (by simp [ha])) t)
theorem Lols.here {K : PySem.W.Frag} {G H : Hp} : ∀ {qs : List Addr} {ds : List PyData}, Lols K G H qs ds → ∀ a, a ∈ qs → H a ≠ none
  | _, _, .nil, _, ha => nomatch ha
  | _, _, .cons h d t, a, ha => by
    rcases List.mem_cons.mp ha with rfl | ha
    · rw [h]; exact fun z => nomatch z
    · exact Lols.here t a ha
theorem Lols.dp {K : PySem.W.Frag} {G H : Hp} (s : Same G H) : ∀ {qs : List Addr} {ds : List PyData}, Lols K G H qs ds → DpAll K H (qs.map V.ref) ds
  | _, _, .nil => .nil
  | _, _, .cons h d t => .cons (.lst (SqL.of h) (dpAll_mono s _ _ d)) (Lols.dp s t)
theorem Own.frame {K : PySem.W.Frag} {G G' H H' : Hp} {kd : Kd} {v : V} {fp : List Addr} {d : PyData} (o : Own K G H kd v fp d) (gg : Same G G') (f : ∀ a, a ∈ fp → H' a = H a) : Own K G' H' kd v fp d := by
  cases o with
  | lst h da => exact .lst (by rw [f _ (by simp)]; exact h) (dpAll_mono gg _ _ da)
  | lol h l n => exact .lol (by rw [f _ (by simp)]; exact h) (l.frame gg fun a ha => f a (by simp [ha])) n
theorem Own.here {K : PySem.W.Frag} {G H : Hp} {kd : Kd} {v : V} {fp : List Addr} {d : PyData} (o : Own K G H kd v fp d) : ∀ a, a ∈ fp → H a ≠ none := by
  intro a ha
  cases o with
  | lst h da =>
    have e : a = _ := List.mem_singleton.mp ha
    subst e; rw [h]; exact fun z => nomatch z
  | lol h l n =>
    rcases List.mem_cons.mp ha with rfl | ha
    · rw [h]; exact fun z => nomatch z
    · exact l.here a ha
theorem Own.stp {K : PySem.W.Frag} {G H G' H' : Hp} {kd : Kd} {v : V} {fp : List Addr} {d : PyData} (o : Own K G H kd v fp d) (s : Stp G H G' H') : Own K G' H' kd v fp d :=
  o.frame s.gg fun a ha => by
    cases q : H a with
    | none => exact absurd q (o.here a ha)
    | some u => exact s.hh a u q
theorem Own.dp {K : PySem.W.Frag} {G H : Hp} {kd : Kd} {v : V} {fp : List Addr} {d : PyData} (o : Own K G H kd v fp d) (s : Same G H) (hk : kd.isL = true) : Dp K H v d := by
  cases o with
  | lst h da => exact .lst (SqL.of h) (dpAll_mono s _ _ da)
  | lol h l n => exact .lst (SqL.of h) (l.dp s)
/-- the heap with the cells of fp as they stand in H -/
def addF (G H : Hp) (fp : List Addr) : Hp := fun a => if a ∈ fp then H a else G a
theorem addF_in {G H : Hp} {fp : List Addr} {a : Addr} (h : a ∈ fp) : addF G H fp a = H a := by unfold addF; rw [if_pos h]
theorem addF_out {G H : Hp} {fp : List Addr} {a : Addr} (h : a ∉ fp) : addF G H fp a = G a := by unfold addF; rw [if_neg h]
theorem addF_gg {G H : Hp} {fp : List Addr} (n : ∀ a, a ∈ fp → G a = none) : Same G (addF G H fp) := fun a o e => by
  rw [addF_out (fun h => by rw [n a h] at e; cases e)]; exact e
theorem addF_gh {G H : Hp} {fp : List Addr} (s : Same G H) : Same (addF G H fp) H := fun a o e => by
  by_cases h : a ∈ fp
  · rw [addF_in h] at e; exact e
  · rw [addF_out h] at e; exact s a o e
theorem Own.freeze {K : PySem.W.Frag} {G H : Hp} {kd : Kd} {v : V} {fp : List Addr} {d : PyData} (o : Own K G H kd v fp d) (hk : kd.isL = true) (n : ∀ a, a ∈ fp → G a = none) : Dp K (addF G H fp) v d := by
  have gg := addF_gg (H := H) n
  cases o with
  | lst h da => exact .lst (SqL.of ((addF_in (by simp)).trans h)) (dpAll_mono gg _ _ da)
  | lol h l nd =>
    rename_i p qs ds
    refine .lst (SqL.of ((addF_in (by simp)).trans h)) ?_
    have go : ∀ {rs : List Addr} {es : List PyData}, (∀ a, a ∈ rs → a ∈ p :: qs) → Lols K G H rs es → DpAll K (addF G H (p :: qs)) (rs.map V.ref) es := by
      intro rs es hs l'
      induction l' with
      | nil => exact .nil
      | cons h' d' _ ih => exact .cons (.lst (SqL.of ((addF_in (hs _ (by simp))).trans h')) (dpAll_mono gg _ _ d')) (ih fun a ha => hs a (by simp [ha]))
    exact go (fun a ha => by simp [ha]) l

/-! ### what is read: frozen data, or a list that is the def's own -/
def Bd (K : PySem.W.Frag) (G H : Hp) (v : V) (d : PyData) : Prop :=
  Dp K G v d ∨ ∃ p xs ds, v = .ref p ∧ d = .list ds ∧ H p = some (.lst xs) ∧ G p = none ∧ DpAll K G xs ds
theorem Bd.stp {K : PySem.W.Frag} {G H G' H' : Hp} {v : V} {d : PyData} (b : Bd K G H v d) (s : Stp G H G' H') : Bd K G' H' v d := by
  rcases b with b | ⟨p, xs, ds, e1, e2, e3, e4, e5⟩
  · exact .inl (dp_mono s.gg d v b)
  · exact .inr ⟨p, xs, ds, e1, e2, s.hh _ _ e3, s.sep p (by rw [e3]; exact fun z => nomatch z) e4, dpAll_mono s.gg ds xs e5⟩
theorem Bd.dp {K : PySem.W.Frag} {G H : Hp} {v : V} {d : PyData} (b : Bd K G H v d) (s : Same G H) : Dp K H v d := by
  rcases b with b | ⟨p, xs, ds, rfl, rfl, e3, _, e5⟩
  · exact dp_mono s d v b
  · exact .lst (SqL.of e3) (dpAll_mono s ds xs e5)
theorem Bd.plain {K : PySem.W.Frag} {G H : Hp} {v : V} {d : PyData} (b : Bd K G H v d) (s : Same G H) : d.plain = true := dp_plain d v (b.dp s)
theorem Bd.list {K : PySem.W.Frag} {G H : Hp} {v : V} {ds : List PyData} (b : Bd K G H v (.list ds)) (s : Same G H) : ∃ p xs, v = .ref p ∧ SqL K H p xs ∧ DpAll K G xs ds := by
  rcases b with b | ⟨p, xs, ds', rfl, e2, e3, _, e5⟩
  · cases b with | lst a h => exact ⟨_, _, rfl, s.seq a, h⟩
  · cases e2; exact ⟨p, xs, rfl, SqL.of e3, e5⟩
theorem Bd.tup {K : PySem.W.Frag} {G H : Hp} {v : V} {ds : List PyData} (b : Bd K G H v (.tuple ds)) (s : Same G H) : ∃ p xs, v = .ref p ∧ SqT K H p xs ∧ DpAll K G xs ds := by
  rcases b with b | ⟨p, xs, ds', rfl, e2, e3, _, e5⟩
  · cases b with | tup a h => exact ⟨_, _, rfl, seqT_same s a, h⟩
  · cases e2
theorem Bd.int {K : PySem.W.Frag} {G H : Hp} {v : V} {i : Int} (b : Bd K G H v (.int i)) : v = .int i := by
  rcases b with b | ⟨p, xs, ds', rfl, e2, e3, _, e5⟩
  · cases b; rfl
  · cases e2
theorem Bd.bool {K : PySem.W.Frag} {G H : Hp} {v : V} {i : Bool} (b : Bd K G H v (.bool i)) : v = .bl i := by
  rcases b with b | ⟨p, xs, ds', rfl, e2, e3, _, e5⟩
  · cases b; rfl
  · cases e2
theorem Bd.str {K : PySem.W.Frag} {G H : Hp} {v : V} {i : Str} (b : Bd K G H v (.str i)) : v = .str i := by
  rcases b with b | ⟨p, xs, ds', rfl, e2, e3, _, e5⟩
  · cases b; rfl
  · cases e2
inductive BdAll (K : PySem.W.Frag) (G H : Hp) : List V → List PyData → Prop
  | nil : BdAll K G H [] []
  | cons {v : V} {vs : List V} {d : PyData} {ds : List PyData} : Bd K G H v d → BdAll K G H vs ds → BdAll K G H (v :: vs) (d :: ds)
theorem BdAll.stp {K : PySem.W.Frag} {G H G' H' : Hp} {vs : List V} {ds : List PyData} (b : BdAll K G H vs ds) (s : Stp G H G' H') : BdAll K G' H' vs ds := by
  induction b with
  | nil => exact .nil
  | cons a _ ih => exact .cons (a.stp s) ih
theorem dpAll_bd {K : PySem.W.Frag} {G H : Hp} : ∀ {vs : List V} {ds : List PyData}, DpAll K G vs ds → BdAll K G H vs ds
  | _, _, .nil => .nil
  | _, _, .cons r t => .cons (.inl r) (dpAll_bd t)

/-! ### a def's slots -/
/-- the data in a def's slots (none: nothing there, or nothing known) -/
abbrev Dv := List (Option PyData)
def dvGet (ρ : Dv) (i : Nat) : Option PyData := (ρ[i]?).join
/-- the slots that hold the def's own things -/
abbrev Os := List (Nat × Kd)
def nin (i : Nat) (O : Os) : Bool := O.all fun p => p.1 != i
/-- if i is an own slot, a list's -/
def lsl (i : Nat) (O : Os) : Bool := O.all fun p => p.1 != i || p.2.isL
def dropO (i : Nat) (O : Os) : Os := O.filter fun p => p.1 != i
theorem nin_of {i : Nat} {O : Os} (h : nin i O = true) {kd : Kd} : (i, kd) ∉ O := fun m => by
  have := List.all_eq_true.mp h _ m
  simp at this
theorem lsl_of {i : Nat} {O : Os} (h : lsl i O = true) {kd : Kd} (m : (i, kd) ∈ O) : kd.isL = true := by
  have := List.all_eq_true.mp h _ m
  simpa using this
theorem nin_lsl {i : Nat} {O : Os} (h : nin i O = true) : lsl i O = true := List.all_eq_true.mpr fun p hp => by
  have := List.all_eq_true.mp h p hp
  simp only [Bool.or_eq_true]; exact .inl this
theorem mem_drop {i j : Nat} {kd : Kd} {O : Os} : (j, kd) ∈ dropO i O ↔ (j, kd) ∈ O ∧ j ≠ i := by simp [dropO, List.mem_filter]
theorem nin_drop {i j : Nat} {O : Os} : nin j (dropO i O) = true ↔ nin j O = true ∨ j = i := by
  unfold nin dropO
  simp only [List.all_eq_true, List.mem_filter, and_imp]
  constructor
  · intro h
    by_cases e : j = i
    · exact .inr e
    · refine .inl fun p hp => ?_
      by_cases q : p.1 = i
      · rw [q]; simp; exact fun z => e z.symm
      · exact h p hp (by simpa using q)
  · rintro (h | rfl) p hp q
    · exact h p hp
    · exact q
/-- what is fixed through a def: the heap at its entry but for what is handed in to be changed (H0), its frozen part (G0), the slots of what is handed in to be changed -/
structure Gh where
  H0 : Hp
  G0 : Hp
  op : List (Nat × Kd × V) := []
structure Rep (K : PySem.W.Frag) (Γ : Gh) (G H : Hp) (O : Os) (σ : L2.St) (ρ : Dv) : Prop where
  base : Stp Γ.G0 Γ.H0 G H
  len : σ.length = ρ.length
  fz : ∀ (i : Nat) (d : PyData), nin i O = true → ρ[i]? = some (some d) → ∃ v, σ[i]? = some (some v) ∧ Dp K G v d
  ow : ∃ fp : Nat → List Addr, (∀ (i : Nat) (kd : Kd) (d : PyData), (i, kd) ∈ O → ρ[i]? = some (some d) → ∃ v, σ[i]? = some (some v) ∧ Own K G H kd v (fp i) d ∧ ∀ a, a ∈ fp i → Γ.H0 a = none ∧ G a = none) ∧
    ∀ (i j : Nat) (a : Addr), i ≠ j → a ∈ fp i → a ∉ fp j
  par : ∀ (i : Nat) (kd : Kd) (v : V), (i, kd, v) ∈ Γ.op → (i, kd) ∈ O ∧ kd.isL = false ∧ σ[i]? = some (some v)
  uq : ∀ (i : Nat) (k k' : Kd), (i, k) ∈ O → (i, k') ∈ O → k = k'
section
variable {K : PySem.W.Frag} {Γ : Gh} {G H G' H' : Hp} {O : Os} {σ : L2.St} {ρ : Dv}
theorem Rep.gh (R : Rep K Γ G H O σ ρ) : Same G H := R.base.gh
theorem Rep.stp (R : Rep K Γ G H O σ ρ) (s : Stp G H G' H') : Rep K Γ G' H' O σ ρ := by
  refine ⟨R.base.trans s, R.len, fun i d hi e => ?_, ?_, R.par, R.uq⟩
  · obtain ⟨v, h1, h2⟩ := R.fz i d hi e
    exact ⟨v, h1, dp_mono s.gg d v h2⟩
  · obtain ⟨fp, h1, h2⟩ := R.ow
    refine ⟨fp, fun i kd d hi e => ?_, h2⟩
    obtain ⟨v, e1, o, n⟩ := h1 i kd d hi e
    exact ⟨v, e1, o.stp s, fun a ha => ⟨(n a ha).1, s.sep a (o.here a ha) (n a ha).2⟩⟩
theorem dvGet_some {i : Nat} {d : PyData} (h : dvGet ρ i = some d) : ρ[i]? = some (some d) := by
  unfold dvGet at h
  cases q : ρ[i]? with
  | none => rw [q] at h; cases h
  | some x => rw [q] at h; cases x with
    | none => cases h
    | some y => cases h; rfl
theorem Rep.dp (R : Rep K Γ G H O σ ρ) {i : Nat} {d : PyData} (hi : nin i O = true) (h : dvGet ρ i = some d) : ∃ v, σ[i]? = some (some v) ∧ Dp K G v d := R.fz i d hi (dvGet_some h)
/-- a slot is frozen, or a list of the def's own -/
def flat (i : Nat) (O : Os) : Bool := O.all fun p => p.1 != i || match p.2 with | .lst => true | _ => false
theorem own_or {i : Nat} {O : Os} : nin i O = true ∨ ∃ kd, (i, kd) ∈ O := by
  by_cases h : nin i O = true
  · exact .inl h
  · refine .inr ?_
    unfold nin at h
    rw [List.all_eq_true] at h
    have h' : ∃ p, p ∈ O ∧ ¬ (p.1 != i) = true := Classical.byContradiction fun q => h fun p hp => Classical.byContradiction fun z => q ⟨p, hp, z⟩
    obtain ⟨⟨j, kd⟩, hp, hj⟩ := h'
    have e : j = i := by simpa using hj
    subst e
    exact ⟨kd, hp⟩
theorem Rep.bd (R : Rep K Γ G H O σ ρ) {i : Nat} {d : PyData} (hf : flat i O = true) (h : dvGet ρ i = some d) : ∃ v, σ[i]? = some (some v) ∧ Bd K G H v d := by
  have e := dvGet_some h
  rcases own_or (i := i) (O := O) with hi | ⟨kd, hi⟩
  · obtain ⟨v, h1, h2⟩ := R.fz i d hi e
    exact ⟨v, h1, .inl h2⟩
  · obtain ⟨fp, h1, h2⟩ := R.ow
    obtain ⟨v, e1, o, n⟩ := h1 i kd d hi e
    have hk := List.all_eq_true.mp hf _ hi
    refine ⟨v, e1, .inr ?_⟩
    generalize fp i = f at o n
    cases o with
    | lst hp da => exact ⟨_, _, _, rfl, rfl, hp, (n _ (by simp)).2, da⟩
    | lol _ _ _ => simp at hk
/-- .. or a list of own lists -/
theorem Rep.bx (R : Rep K Γ G H O σ ρ) {i : Nat} {d : PyData} (hf : lsl i O = true) (h : dvGet ρ i = some d) : ∃ v, σ[i]? = some (some v) ∧ Dp K H v d := by
  have e := dvGet_some h
  rcases own_or (i := i) (O := O) with hi | ⟨kd, hi⟩
  · obtain ⟨v, h1, h2⟩ := R.fz i d hi e
    exact ⟨v, h1, dp_mono R.gh d v h2⟩
  · obtain ⟨fp, h1, h2⟩ := R.ow
    obtain ⟨v, e1, o, n⟩ := h1 i kd d hi e
    exact ⟨v, e1, o.dp R.gh (lsl_of hf hi)⟩
/-- a slot's list is frozen -/
theorem Rep.freeze (R : Rep K Γ G H O σ ρ) (i : Nat) (hl : lsl i O = true) : ∃ G', Same G G' ∧ Rep K Γ G' H (dropO i O) σ ρ := by
  obtain ⟨fp, h1, h2⟩ := R.ow
  have par : ∀ (j : Nat) (kd : Kd) (v : V), (j, kd, v) ∈ Γ.op → (j, kd) ∈ dropO i O ∧ kd.isL = false ∧ σ[j]? = some (some v) := fun j kd v m => by
    obtain ⟨p1, p2, p3⟩ := R.par j kd v m
    refine ⟨mem_drop.mpr ⟨p1, fun z => ?_⟩, p2, p3⟩
    subst z
    rw [lsl_of hl p1] at p2; cases p2
  have uq : ∀ (j : Nat) (k k' : Kd), (j, k) ∈ dropO i O → (j, k') ∈ dropO i O → k = k' := fun j k k' m m' => R.uq j k k' (mem_drop.mp m).1 (mem_drop.mp m').1
  have easy : (∀ kd d, (i, kd) ∈ O → ρ[i]? ≠ some (some d)) → ∃ G', Same G G' ∧ Rep K Γ G' H (dropO i O) σ ρ := fun no => by
    refine ⟨G, Same.refl _, R.base, R.len, fun j d hj e => ?_, ⟨fp, fun j kd d hj e => h1 j kd d (mem_drop.mp hj).1 e, h2⟩, par, uq⟩
    rcases nin_drop.mp hj with hj | rfl
    · exact R.fz j d hj e
    · rcases own_or (i := j) (O := O) with hi | ⟨kd, hi⟩
      · exact R.fz j d hi e
      · exact absurd e (no kd d hi)
  by_cases hd : ∃ kd d, (i, kd) ∈ O ∧ ρ[i]? = some (some d)
  · obtain ⟨kd, d, hi, q⟩ := hd
    obtain ⟨v, e1, o, n⟩ := h1 i kd d hi q
    have gg := addF_gg (H := H) fun a ha => (n a ha).2
    refine ⟨addF G H (fp i), gg, ⟨R.base.hh, R.base.gg.trans gg, addF_gh R.gh, fun a hn z => ?_⟩, R.len, fun j d' hj e => ?_, ⟨fp, fun j kd' d' hj e => ?_, h2⟩, par, uq⟩
    · rw [addF_out (fun y => hn (n a y).1)]
      exact R.base.sep a hn z
    · by_cases hji : j = i
      · subst hji
        rw [q] at e; cases e
        exact ⟨v, e1, o.freeze (lsl_of hl hi) fun a ha => (n a ha).2⟩
      · rcases nin_drop.mp hj with hj | hj
        · obtain ⟨v', f1, f2⟩ := R.fz j d' hj e
          exact ⟨v', f1, dp_mono gg d' v' f2⟩
        · exact absurd hj hji
    · obtain ⟨hj1, hj2⟩ := mem_drop.mp hj
      obtain ⟨v', f1, f2, f3⟩ := h1 j kd' d' hj1 e
      exact ⟨v', f1, f2.frame gg fun _ _ => rfl, fun a ha => ⟨(f3 a ha).1, by rw [addF_out (h2 j i a hj2 ha)]; exact (f3 a ha).2⟩⟩
  · exact easy fun kd d z e => hd ⟨kd, d, z, e⟩
end
end Dat
open PySem PySem.Spec PyProof.Rows L2
namespace Dat

/-! ### readings over data -/
abbrev Fd := Dv → Option PyData
abbrev Fl := Dv → Option (List PyData)
/-- frozen data -/
def RD (K : PySem.W.Frag) (O : Os) (F : Fd) : TE := fun σ H Q => ∃ Γ G ρ d, Rep K Γ G H O σ ρ ∧ F ρ = some d ∧ ∀ v G' H', Stp G H G' H' → Dp K G' v d → Q v H'
/-- data, or a list of the def's own, looked at -/
def RB (K : PySem.W.Frag) (O : Os) (F : Fd) : TE := fun σ H Q => ∃ Γ G ρ d, Rep K Γ G H O σ ρ ∧ F ρ = some d ∧ ∀ v G' H', Stp G H G' H' → Bd K G' H' v d → Q v H'
/-- a new list -/
def RO (K : PySem.W.Frag) (O : Os) (F : Fl) : TE := fun σ H Q => ∃ Γ G ρ ds, Rep K Γ G H O σ ρ ∧ F ρ = some ds ∧
  ∀ p xs G' H', Stp G H G' H' → H p = none → G' p = none → H' p = some (.lst xs) → DpAll K G' xs ds → Q (.ref p) H'
/-- a test -/
def RT (K : PySem.W.Frag) (O : Os) (C : Dv → Option Bool) : TT := fun σ H Q => ∃ Γ G ρ b, Rep K Γ G H O σ ρ ∧ C ρ = some b ∧ ∀ G' H', Stp G H G' H' → Q b H'
/-- arguments: frozen; looked at -/
def RA (K : PySem.W.Frag) (O : Os) (F : Fl) : TA := fun σ H Q => ∃ Γ G ρ ds, Rep K Γ G H O σ ρ ∧ F ρ = some ds ∧ ∀ vs G' H', Stp G H G' H' → DpAll K G' vs ds → Q vs H'
def RAb (K : PySem.W.Frag) (O : Os) (F : Fl) : TA := fun σ H Q => ∃ Γ G ρ ds, Rep K Γ G H O σ ρ ∧ F ρ = some ds ∧ ∀ vs G' H', Stp G H G' H' → BdAll K G' H' vs ds → Q vs H'

section
variable {X : Cx} {e a b : Expr} {pos : Pos} {O : Os} {F F' : Fd} {L : Fl}
theorem pe_imp {t t' : TE} (h : PE X e t) (w : ∀ σ H Q, t' σ H Q → t σ H Q) : PE X e t' := ⟨fun pins s σ H Q I q => h.run pins s σ H Q I (w _ _ _ q)⟩
theorem pt_imp {t t' : TT} (h : PT X e t) (w : ∀ σ H Q, t' σ H Q → t σ H Q) : PT X e t' := ⟨fun pins s σ H Q I q => h.run pins s σ H Q I (w _ _ _ q)⟩
theorem pa_imp {es : List Expr} {t t' : TA} (h : PA X es t) (w : ∀ σ H Q, t' σ H Q → t σ H Q) : PA X es t' := ⟨fun ps pins s σ H Q I q => h.run ps pins s σ H Q I (w _ _ _ q)⟩
/-- frozen data may be looked at -/
theorem d_b (h : PE X e (RD X.K O F)) : PE X e (RB X.K O F) := pe_imp h fun σ H Q ⟨Γ, G, ρ, d, R, ef, q⟩ => ⟨Γ, G, ρ, d, R, ef, fun v G' H' s dv => q v G' H' s (.inl dv)⟩
/-- a new list is frozen -/
def lstF (L : Fl) : Fd := fun ρ => (L ρ).map .list
theorem o_d (h : PE X e (RO X.K O L)) : PE X e (RD X.K O (lstF L)) := pe_imp h fun σ H Q ⟨Γ, G, ρ, d, R, ef, q⟩ => by
  unfold lstF at ef
  cases el : L ρ with
  | none => rw [el] at ef; cases ef
  | some ds =>
    rw [el] at ef
    cases ef
    refine ⟨Γ, G, ρ, ds, R, el, fun p xs G' H' s n g hp dv => q (.ref p) (upd G' p (.lst xs)) H' (s.frz n g hp) (.lst (SqL.of upd_same) (dpAll_mono (fun a u z => ?_) ds xs dv))⟩
    rw [upd_ne (ne_of_none z g)]; exact z
theorem o_b (h : PE X e (RO X.K O L)) : PE X e (RB X.K O (lstF L)) := d_b (o_d h)

/-! ### names, constants -/
def vF (i : Nat) : Fd := fun ρ => dvGet ρ i
theorem b_var (i : Nat) (h : PE X e (tVar i)) (hi : flat i O = true := by rfl) : PE X e (RB X.K O (vF i)) := pe_imp h fun σ H Q ⟨Γ, G, ρ, d, R, ef, q⟩ => by
  obtain ⟨v, h1, h2⟩ := R.bd (i := i) hi ef
  exact ⟨v, h1, q v G H (Stp.refl R.gh) h2⟩
theorem d_var (i : Nat) (h : PE X e (tVar i)) (hi : nin i O = true := by rfl) : PE X e (RD X.K O (vF i)) := pe_imp h fun σ H Q ⟨Γ, G, ρ, d, R, ef, q⟩ => by
  obtain ⟨v, h1, h2⟩ := R.dp hi ef
  exact ⟨v, h1, q v G H (Stp.refl R.gh) h2⟩
def cF (d : PyData) : Fd := fun _ => some d
theorem d_int {i : Int} {j : Nat} : PE X (.Constant (.int i) j pos) (RD X.K O (cF (.int i))) := pe_imp pe_int fun σ H Q ⟨Γ, G, ρ, d, R, ef, q⟩ => by
  cases ef; exact q _ G H (Stp.refl R.gh) (.int i)
theorem d_str {x : Str} {j : Nat} : PE X (.Constant (.str x) j pos) (RD X.K O (cF (.str x))) := pe_imp pe_str fun σ H Q ⟨Γ, G, ρ, d, R, ef, q⟩ => by
  cases ef; exact q _ G H (Stp.refl R.gh) (.str x)
theorem d_bl {x : Bool} {j : Nat} : PE X (.Constant (.bool x) j pos) (RD X.K O (cF (.bool x))) := pe_imp pe_bl fun σ H Q ⟨Γ, G, ρ, d, R, ef, q⟩ => by
  cases ef; exact q _ G H (Stp.refl R.gh) (.bl x)
theorem d_non {j : Nat} : PE X (.Constant .none j pos) (RD X.K O (cF .none)) := pe_imp pe_non fun σ H Q ⟨Γ, G, ρ, d, R, ef, q⟩ => by
  cases ef; exact q _ G H (Stp.refl R.gh) .non

/-! ### two-place operations -/
def f2 (g : PyData → PyData → Option PyData) (F F' : Fd) : Fd := fun ρ => (F ρ).bind fun x => (F' ρ).bind fun y => g x y
theorem f2_some {g : PyData → PyData → Option PyData} {ρ : Dv} {d : PyData} (h : f2 g F F' ρ = some d) : ∃ x y, F ρ = some x ∧ F' ρ = some y ∧ g x y = some d := by
  unfold f2 at h
  cases e1 : F ρ with
  | none => rw [e1] at h; cases h
  | some x =>
    cases e2 : F' ρ with
    | none => rw [e1, e2] at h; cases h
    | some y => rw [e1, e2] at h; exact ⟨x, y, rfl, rfl, h⟩
def r2D (K : PySem.W.Frag) (g : PyData → PyData → Option PyData) : R2 := fun x y H Q => ∃ G dx dy d, Same G H ∧ Bd K G H x dx ∧ Bd K G H y dy ∧ g dx dy = some d ∧ ∀ v G' H', Stp G H G' H' → Dp K G' v d → Q v H'
theorem top_imp {g : PyData → PyData → Option PyData} {σ : L2.St} {H : Hp} {Q : VK} (h : RD X.K O (f2 g F F') σ H Q) : tOp (r2D X.K g) (RB X.K O F) (RB X.K O F') σ H Q := by
  obtain ⟨Γ, G, ρ, d, R, ef, q⟩ := h
  obtain ⟨dx, dy, e1, e2, e3⟩ := f2_some ef
  refine ⟨Γ, G, ρ, dx, R, e1, fun x G1 H1 s1 bx => ⟨Γ, G1, ρ, dy, R.stp s1, e2, fun y G2 H2 s2 y2 => ⟨G2, dx, dy, d, s2.gh, bx.stp s2, y2, e3, fun v G' H' s3 dv => q v G' H' ((s1.trans s2).trans s3) dv⟩⟩⟩
theorem d_op {op : Operator} {g : PyData → PyData → Option PyData} (ho : OpR X (binaryOp op) (r2D X.K g)) (ha : PE X a (RB X.K O F)) (hb : PE X b (RB X.K O F')) : PE X (.BinOp a op b pos) (RD X.K O (f2 g F F')) :=
  pe_imp (pe_op ho ha hb) fun σ H Q h => top_imp h
theorem d_cmp {op : CmpOp} {g : PyData → PyData → Option PyData} (ho : OpR X (compareOp op) (r2D X.K g)) (ha : PE X a (RB X.K O F)) (hb : PE X b (RB X.K O F')) (hm : behindInMarks op b = false) : PE X (.Compare a [op] [b] pos) (RD X.K O (f2 g F F')) :=
  pe_imp (pe_cmpR ho ha hb hm) fun σ H Q h => top_imp h
/-- data that must be a truth value -/
def asB (F : Fd) : Dv → Option Bool := fun ρ => (F ρ).bind fun d => match d with | .bool b => some b | _ => none
theorem asB_some {ρ : Dv} {b : Bool} (h : asB F ρ = some b) : F ρ = some (.bool b) := by
  unfold asB at h
  cases e : F ρ with
  | none => rw [e] at h; cases h
  | some d =>
    rw [e] at h
    cases d with
    | bool c => cases h; rfl
    | none => cases h
    | int _ => cases h
    | str _ => cases h
    | list _ => cases h
    | tuple _ => cases h
    | dict _ => cases h
theorem rd_test {t : TE} {σ : L2.St} {H : Hp} {Q : Bool → Hp → Prop} (w : ∀ Q', RD X.K O F σ H Q' → t σ H Q') (h : RT X.K O (asB F) σ H Q) : t σ H fun x H' => ∃ k, x = .bl k ∧ Q k H' := by
  obtain ⟨Γ, G, ρ, b, R, eb, q⟩ := h
  refine w _ ⟨Γ, G, ρ, .bool b, R, asB_some eb, fun v G' H' s dv => ?_⟩
  cases dv
  exact ⟨b, rfl, q G' H' s⟩
theorem t_cmp {op : CmpOp} {g : PyData → PyData → Option PyData} (ho : OpR X (compareOp op) (r2D X.K g)) (ha : PE X a (RB X.K O F)) (hb : PE X b (RB X.K O F')) (hm : behindInMarks op b = false) : PT X (.Compare a [op] [b] pos) (RT X.K O (asB (f2 g F F'))) :=
  pt_imp (pt_cmpR ho ha hb hm) fun σ H Q h => rd_test (fun Q' h' => top_imp h') h
/-- a bool's value as a test -/
theorem t_val (h : PE X e (RD X.K O F)) (he : ∀ whole, isTrue e X.env whole = (do let v ← whole; standAt e.pos; holding [v] (truthy v)) := by intro _; rfl) : PT X e (RT X.K O (asB F)) :=
  pt_imp (pt_val h he) fun σ H Q h' => rd_test (fun Q' h'' => h'') h'
/-- chains -/
def chF (g g' : PyData → PyData → Option PyData) (F F' F'' : Fd) : Fd := fun ρ => match f2 g F F' ρ with
  | some (.bool true) => f2 g' F' F'' ρ
  | some (.bool false) => some (.bool false)
  | _ => none
theorem chain_imp {c : Expr} {F'' : Fd} {g g' : PyData → PyData → Option PyData} {σ : L2.St} {H : Hp} {Q : VK} (h : RD X.K O (chF g g' F F' F'') σ H Q) : tChain (r2D X.K g) (r2D X.K g') (RB X.K O F) (RB X.K O F') (RB X.K O F'') σ H Q := by
  obtain ⟨Γ, G, ρ, d, R, ef, q⟩ := h
  unfold chF at ef
  have hb : ∃ k, f2 g F F' ρ = some (.bool k) := by
    cases e : f2 g F F' ρ with
    | none => rw [e] at ef; cases ef
    | some z =>
      rw [e] at ef
      cases z with
      | bool k => exact ⟨k, rfl⟩
      | none => cases ef
      | int _ => cases ef
      | str _ => cases ef
      | list _ => cases ef
      | tuple _ => cases ef
      | dict _ => cases ef
  obtain ⟨k, ek⟩ := hb
  rw [ek] at ef
  obtain ⟨dx, dy, e1, e2, e3⟩ := f2_some ek
  refine ⟨Γ, G, ρ, dx, R, e1, fun x G1 H1 s1 bx => ⟨Γ, G1, ρ, dy, R.stp s1, e2, fun y G2 H2 s2 y2 => ⟨G2, dx, dy, _, s2.gh, bx.stp s2, y2, e3, fun v G3 H3 s3 dv => ?_⟩⟩⟩
  cases dv
  refine ⟨k, rfl, ?_⟩
  cases k with
  | false =>
    rw [if_neg Bool.false_ne_true]
    have ed : d = .bool false := (Option.some.inj ef).symm
    subst ed
    exact q _ G3 H3 ((s1.trans s2).trans s3) (.bl false)
  | true =>
    rw [if_pos rfl]
    obtain ⟨dy', dz, f1, f2', f3⟩ := f2_some (show f2 g' F' F'' ρ = some d from ef)
    rw [e2] at f1; cases f1
    refine ⟨Γ, G3, ρ, dz, ((R.stp s1).stp s2).stp s3, f2', fun z G4 H4 s4 bz => ⟨G4, dy, dz, d, s4.gh, (y2.stp s3).stp s4, bz, f3, fun v G' H' s5 dv => q v G' H' ((((s1.trans s2).trans s3).trans s4).trans s5) dv⟩⟩
theorem d_chain {c : Expr} {F'' : Fd} {op op' : CmpOp} {g g' : PyData → PyData → Option PyData} (ho : OpR X (compareOp op) (r2D X.K g)) (ho' : OpR X (compareOp op') (r2D X.K g')) (ha : PE X a (RB X.K O F)) (hb : PE X b (RB X.K O F')) (hc : PE X c (RB X.K O F''))
    (hm : lastMarks [op, op'] [b, c] = false := by with_unfolding_all rfl) : PE X (.Compare a [op, op'] [b, c] pos) (RD X.K O (chF g g' F F' F'')) :=
  pe_imp (pe_chain ho ho' ha hb hc hm) fun σ H Q h => chain_imp (c := c) h
theorem t_chain {c : Expr} {F'' : Fd} {op op' : CmpOp} {g g' : PyData → PyData → Option PyData} (ho : OpR X (compareOp op) (r2D X.K g)) (ho' : OpR X (compareOp op') (r2D X.K g')) (ha : PE X a (RB X.K O F)) (hb : PE X b (RB X.K O F')) (hc : PE X c (RB X.K O F''))
    (hm : lastMarks [op, op'] [b, c] = false := by with_unfolding_all rfl) : PT X (.Compare a [op, op'] [b, c] pos) (RT X.K O (asB (chF g g' F F' F''))) :=
  pt_imp (pt_chain ho ho' ha hb hc hm) fun σ H Q h => rd_test (fun Q' h' => chain_imp (c := c) h') h

/-! ### and, or, not; a if c else b -/
variable {C C' : Dv → Option Bool} {rest : List Expr}
def notT (C : Dv → Option Bool) : Dv → Option Bool := fun ρ => (C ρ).map (!·)
def andT (C C' : Dv → Option Bool) : Dv → Option Bool := fun ρ => match C ρ with | some true => C' ρ | some false => some false | none => none
def orT (C C' : Dv → Option Bool) : Dv → Option Bool := fun ρ => match C ρ with | some true => some true | some false => C' ρ | none => none
theorem t_not (h : PT X a (RT X.K O C)) : PT X (.UnaryOp .Not a pos) (RT X.K O (notT C)) := pt_imp (pt_not h) fun σ H Q ⟨Γ, G, ρ, b, R, eb, q⟩ => by
  unfold notT at eb
  cases e : C ρ with
  | none => rw [e] at eb; cases eb
  | some k => rw [e] at eb; cases eb; exact ⟨Γ, G, ρ, k, R, e, fun G' H' s => q G' H' s⟩
structure WT (X : Cx) (e : Expr) (t : TT) : Prop where
  pw : PW X e t
theorem WT.imp {t t' : TT} (h : WT X e t) (w : ∀ σ H Q, t' σ H Q → t σ H Q) : WT X e t' := ⟨⟨fun wh pins s σ H Q I q => h.pw.run wh pins s σ H Q I (w _ _ _ q)⟩⟩
theorem w_and1 (h : PT X a (RT X.K O C)) : WT X (.BoolOp .And [a] pos) (RT X.K O C) := ⟨pw_and1 h⟩
theorem w_or1 (h : PT X a (RT X.K O C)) : WT X (.BoolOp .Or [a] pos) (RT X.K O C) := ⟨pw_or1 h⟩
theorem w_and (h : PT X a (RT X.K O C)) (h' : WT X (.BoolOp .And (b :: rest) pos) (RT X.K O C')) : WT X (.BoolOp .And (a :: b :: rest) pos) (RT X.K O (andT C C')) :=
  WT.imp ⟨pw_and h h'.pw⟩ fun σ H Q ⟨Γ, G, ρ, k, R, eb, q⟩ => by
    unfold andT at eb
    cases e : C ρ with
    | none => rw [e] at eb; cases eb
    | some c =>
      rw [e] at eb
      cases c with
      | false => cases eb; exact ⟨Γ, G, ρ, false, R, e, fun G' H' s => iteF (q G' H' s)⟩
      | true => exact ⟨Γ, G, ρ, true, R, e, fun G1 H1 s1 => iteT (⟨Γ, G1, ρ, k, R.stp s1, eb, fun G' H' s => q G' H' (s1.trans s)⟩)⟩
theorem w_or (h : PT X a (RT X.K O C)) (h' : WT X (.BoolOp .Or (b :: rest) pos) (RT X.K O C')) : WT X (.BoolOp .Or (a :: b :: rest) pos) (RT X.K O (orT C C')) :=
  WT.imp ⟨pw_or h h'.pw⟩ fun σ H Q ⟨Γ, G, ρ, k, R, eb, q⟩ => by
    unfold orT at eb
    cases e : C ρ with
    | none => rw [e] at eb; cases eb
    | some c =>
      rw [e] at eb
      cases c with
      | true => cases eb; exact ⟨Γ, G, ρ, true, R, e, fun G' H' s => iteT (q G' H' s)⟩
      | false => exact ⟨Γ, G, ρ, false, R, e, fun G1 H1 s1 => iteF (⟨Γ, G1, ρ, k, R.stp s1, eb, fun G' H' s => q G' H' (s1.trans s)⟩)⟩
theorem t_w (h : WT X e (RT X.K O C)) : PT X e (RT X.K O C) := h.pw.pt
/-- .. as values -/
def blF (C : Dv → Option Bool) : Fd := fun ρ => (C ρ).map .bool
theorem blF_some {ρ : Dv} {d : PyData} (h : blF C ρ = some d) : ∃ b, C ρ = some b ∧ d = .bool b := by
  unfold blF at h
  cases e : C ρ with
  | none => rw [e] at h; cases h
  | some b => rw [e] at h; cases h; exact ⟨b, rfl, rfl⟩
theorem d_not (h : PE X a (RD X.K O F)) : PE X (.UnaryOp .Not a pos) (RD X.K O (blF (notT (asB F)))) := pe_imp (pe_not h) fun σ H Q ⟨Γ, G, ρ, d, R, ef, q⟩ => by
  obtain ⟨b, eb, rfl⟩ := blF_some ef
  unfold notT at eb
  cases e : asB F ρ with
  | none => rw [e] at eb; cases eb
  | some k =>
    rw [e] at eb; cases eb
    refine ⟨Γ, G, ρ, .bool k, R, asB_some e, fun v G' H' s dv => ?_⟩
    cases dv
    exact ⟨k, rfl, q _ G' H' s (.bl _)⟩
theorem d_one {op : BoolOp} (h : PE X a (RD X.K O F)) : PE X (.BoolOp op [a] pos) (RD X.K O F) := pe_one h
/-- the first of two operands is a truth value; the last may be anything -/
def andF (F F' : Fd) : Fd := fun ρ => match F ρ with | some (.bool true) => F' ρ | some (.bool false) => some (.bool false) | _ => none
def orF (F F' : Fd) : Fd := fun ρ => match F ρ with | some (.bool true) => some (.bool true) | some (.bool false) => F' ρ | _ => none
theorem boolOf {x : Option PyData} {y : PyData} {f g : Option PyData} (h : (match x with | some (.bool true) => f | some (.bool false) => g | _ => none) = some y) : (x = some (.bool true) ∧ f = some y) ∨ (x = some (.bool false) ∧ g = some y) := by
  cases x with
  | none => cases h
  | some z =>
    cases z with
    | bool k => cases k with
      | true => exact .inl ⟨rfl, h⟩
      | false => exact .inr ⟨rfl, h⟩
    | none => cases h
    | int _ => cases h
    | str _ => cases h
    | list _ => cases h
    | tuple _ => cases h
    | dict _ => cases h
theorem d_and (h : PE X a (RD X.K O F)) (h' : PE X (.BoolOp .And (b :: rest) pos) (RD X.K O F')) : PE X (.BoolOp .And (a :: b :: rest) pos) (RD X.K O (andF F F')) :=
  pe_imp (pe_and h h') fun σ H Q ⟨Γ, G, ρ, d, R, ef, q⟩ => by
    rcases boolOf ef with ⟨e1, e2⟩ | ⟨e1, e2⟩
    · exact ⟨Γ, G, ρ, _, R, e1, fun v G1 H1 s1 dv => by cases dv; exact ⟨true, rfl, iteT (⟨Γ, G1, ρ, d, R.stp s1, e2, fun v G' H' s dv => q v G' H' (s1.trans s) dv⟩)⟩⟩
    · cases e2; exact ⟨Γ, G, ρ, _, R, e1, fun v G1 H1 s1 dv => by cases dv; exact ⟨false, rfl, iteF (q _ G1 H1 s1 (.bl false))⟩⟩
theorem d_or (h : PE X a (RD X.K O F)) (h' : PE X (.BoolOp .Or (b :: rest) pos) (RD X.K O F')) : PE X (.BoolOp .Or (a :: b :: rest) pos) (RD X.K O (orF F F')) :=
  pe_imp (pe_or h h') fun σ H Q ⟨Γ, G, ρ, d, R, ef, q⟩ => by
    rcases boolOf ef with ⟨e1, e2⟩ | ⟨e1, e2⟩
    · cases e2; exact ⟨Γ, G, ρ, _, R, e1, fun v G1 H1 s1 dv => by cases dv; exact ⟨true, rfl, iteT (q _ G1 H1 s1 (.bl true))⟩⟩
    · exact ⟨Γ, G, ρ, _, R, e1, fun v G1 H1 s1 dv => by cases dv; exact ⟨false, rfl, iteF (⟨Γ, G1, ρ, d, R.stp s1, e2, fun v G' H' s dv => q v G' H' (s1.trans s) dv⟩)⟩⟩
def ifF (C : Dv → Option Bool) (F F' : Fd) : Fd := fun ρ => match C ρ with | some true => F ρ | some false => F' ρ | none => none
theorem d_ifExp {c : Expr} (hc : PT X c (RT X.K O C)) (h : PE X a (RD X.K O F)) (h' : PE X b (RD X.K O F')) : PE X (.IfExp c a b pos) (RD X.K O (ifF C F F')) :=
  pe_imp (pe_ifExp hc h h') fun σ H Q ⟨Γ, G, ρ, d, R, ef, q⟩ => by
    unfold ifF at ef
    cases e : C ρ with
    | none => rw [e] at ef; cases ef
    | some k =>
      rw [e] at ef
      cases k with
      | true => exact ⟨Γ, G, ρ, true, R, e, fun G1 H1 s1 => iteT (⟨Γ, G1, ρ, d, R.stp s1, ef, fun v G' H' s dv => q v G' H' (s1.trans s) dv⟩)⟩
      | false => exact ⟨Γ, G, ρ, false, R, e, fun G1 H1 s1 => iteF (⟨Γ, G1, ρ, d, R.stp s1, ef, fun v G' H' s dv => q v G' H' (s1.trans s) dv⟩)⟩

/-! ### argument lists, tuples, lists written -/
variable {es : List Expr}
def nilA : Fl := fun _ => some []
def consA (F : Fd) (L : Fl) : Fl := fun ρ => (F ρ).bind fun d => (L ρ).map fun ds => d :: ds
theorem consA_some {ρ : Dv} {ds : List PyData} (h : consA F L ρ = some ds) : ∃ d r, F ρ = some d ∧ L ρ = some r ∧ ds = d :: r := by
  unfold consA at h
  cases e1 : F ρ with
  | none => rw [e1] at h; cases h
  | some d =>
    cases e2 : L ρ with
    | none => rw [e1, e2] at h; cases h
    | some r => rw [e1, e2] at h; cases h; exact ⟨d, r, rfl, rfl, rfl⟩
theorem a_nil : PA X [] (RA X.K O nilA) := pa_imp pa_nil fun σ H Q ⟨Γ, G, ρ, ds, R, ef, q⟩ => by cases ef; exact q [] G H (Stp.refl R.gh) .nil
theorem a_cons (h : PE X e (RD X.K O F)) (h' : PA X es (RA X.K O L)) (hs : starEach (e :: es) X.env = (false, eval e X.env) :: starEach es X.env := by rfl) : PA X (e :: es) (RA X.K O (consA F L)) :=
  pa_imp (pa_cons h h' hs) fun σ H Q ⟨Γ, G, ρ, ds, R, ef, q⟩ => by
    obtain ⟨d, r, e1, e2, rfl⟩ := consA_some ef
    exact ⟨Γ, G, ρ, d, R, e1, fun v G1 H1 s1 dv => ⟨Γ, G1, ρ, r, R.stp s1, e2, fun vs G' H' s da => q (v :: vs) G' H' (s1.trans s) (.cons (dp_mono s.gg _ _ dv) da)⟩⟩
theorem ab_nil : PA X [] (RAb X.K O nilA) := pa_imp pa_nil fun σ H Q ⟨Γ, G, ρ, ds, R, ef, q⟩ => by cases ef; exact q [] G H (Stp.refl R.gh) .nil
theorem ab_cons (h : PE X e (RB X.K O F)) (h' : PA X es (RAb X.K O L)) (hs : starEach (e :: es) X.env = (false, eval e X.env) :: starEach es X.env := by rfl) : PA X (e :: es) (RAb X.K O (consA F L)) :=
  pa_imp (pa_cons h h' hs) fun σ H Q ⟨Γ, G, ρ, ds, R, ef, q⟩ => by
    obtain ⟨d, r, e1, e2, rfl⟩ := consA_some ef
    exact ⟨Γ, G, ρ, d, R, e1, fun v G1 H1 s1 dv => ⟨Γ, G1, ρ, r, R.stp s1, e2, fun vs G' H' s da => q (v :: vs) G' H' (s1.trans s) (.cons (dv.stp s) da)⟩⟩
/-- a displayed tuple or list has few items -/
def few (L : Fl) : Fl := fun ρ => (L ρ).bind fun ds => if ds.length ≤ 1000 then some ds else none
theorem few_some {ρ : Dv} {ds : List PyData} (h : few L ρ = some ds) : L ρ = some ds ∧ ds.length ≤ 1000 := by
  unfold few at h
  cases e : L ρ with
  | none => rw [e] at h; cases h
  | some r =>
    rw [e] at h
    by_cases hl : r.length ≤ 1000
    · have h' : (if r.length ≤ 1000 then some r else none) = some ds := h
      rw [if_pos hl] at h'; cases h'; exact ⟨rfl, hl⟩
    · have h' : (if r.length ≤ 1000 then some r else none) = some ds := h
      rw [if_neg hl] at h'; cases h'
def tupF (L : Fl) : Fd := fun ρ => (few L ρ).map .tuple
theorem d_tup {k : Nat} (h : PA X es (RA X.K O L)) : PE X (.Tuple es k pos) (RD X.K O (tupF L)) := pe_imp (pe_tup h) fun σ H Q ⟨Γ, G, ρ, d, R, ef, q⟩ => by
  unfold tupF at ef
  cases e : few L ρ with
  | none => rw [e] at ef; cases ef
  | some ds =>
    rw [e] at ef; cases ef
    obtain ⟨e1, hl⟩ := few_some e
    refine ⟨Γ, G, ρ, ds, R, e1, fun vs G1 H1 s1 da => ⟨by rw [da.length]; exact Nat.le_of_lt (small1000 hl), fun p hp => ?_⟩⟩
    have sg := Stp.newF (p := p) (o := .tup vs) s1.gh hp
    exact q _ _ _ (s1.trans sg) (.tup (SqT.of upd_same) (dpAll_mono sg.gg ds vs da))
theorem o_lst (h : PA X es (RA X.K O L)) : PE X (.List es pos) (RO X.K O (few L)) := pe_imp (pe_lst h) fun σ H Q ⟨Γ, G, ρ, ds, R, ef, q⟩ => by
  obtain ⟨e1, hl⟩ := few_some ef
  refine ⟨Γ, G, ρ, ds, R, e1, fun vs G1 H1 s1 da => ⟨by rw [da.length]; exact Nat.le_of_lt (small1000 hl), fun p hp => ?_⟩⟩
  have sg := Stp.new (p := p) (o := .lst vs) s1.gh hp
  exact q p vs G1 _ (s1.trans sg) (s1.hh.free hp) (s1.gh.free hp) upd_same da
end
end Dat
open PySem PySem.Spec PyProof.Rows L2
namespace Dat

/-! ### operators on data -/
def dAdd : PyData → PyData → Option PyData
  | .int i, .int j => some (.int (i + j))
  | .str x, .str y => if x.length + y.length ≤ 16777216 then some (.str (x ++ y)) else none
  | .list xs, .list ys => if xs.length + ys.length ≤ 16777216 then some (.list (xs ++ ys)) else none
  | .tuple xs, .tuple ys => if xs.length + ys.length ≤ 16777216 ∧ xs ≠ [] then some (.tuple (xs ++ ys)) else none
  | _, _ => none
def dSub : PyData → PyData → Option PyData
  | .int i, .int j => some (.int (i - j))
  | _, _ => none
def dMul : PyData → PyData → Option PyData
  | .int i, .int j => if (-(2 ^ 64) < i ∧ i < 2 ^ 64) ∨ (-(2 ^ 64) < j ∧ j < 2 ^ 64) then some (.int (i * j)) else none
  | _, _ => none
def dMod : PyData → PyData → Option PyData
  | .int i, .int j => if 0 < j then some (.int (i % j)) else none
  | _, _ => none
def dDiv : PyData → PyData → Option PyData
  | .int i, .int j => if 0 < j ∧ j < 1073741824 then some (.int (i / j)) else none
  | _, _ => none
def dPow : PyData → PyData → Option PyData
  | .int i, .int j => if 0 ≤ j ∧ j ≤ 1000000 ∧ i.natAbs < 2 ^ 64 then some (.int (i ^ j.toNat)) else none
  | _, _ => none
theorem line_eq : sizeLine = 16777216 := rfl

section
variable {X : Cx}
theorem add_plain {prog : Program} {w : World} {A : Around} {E : Value → Shared → Prop} {s : Shared} {l b : Addr} {vs ws : List Value} {Q : Value → Shared → Prop} (hl : s.heap.IsList l vs.toArray) (hb : s.heap.IsList b ws.toArray)
    (h : Q (.ref s.heap.objs.size) { s with heap := s.heap.push { cls := .type "list", data := .seq (vs ++ ws).toArray } }) (hsz : vs.length + ws.length ≤ sizeLine) : wpAny (model prog w) A (binaryOp .Add (.ref l) (.ref b)) Q E s := by
  obtain ⟨⟨cls, dd, data, sl⟩, ho, hc, n, hd⟩ := id hl
  obtain ⟨⟨cls2, dd2, data2, sl2⟩, ho2, hc2, n2, hd2⟩ := id hb
  simp only at hc hd hc2 hd2
  subst hc hd hc2 hd2
  have e : vs.toArray ++ ws.toArray = (vs ++ ws).toArray := by simp
  refine concat_meets ⟨_, ho, rfl⟩ ⟨_, ho2, rfl⟩ noFill_list_add seq_list_add PySem.F.slot_list_add PySem.F.entry_list_add (PySem.F.args_list_add_2 _ _) (list_addW l b vs.toArray ws.toArray n n2 dd dd2 sl sl2 (by simpa using hsz)) ⟨ho, ho2, ?_⟩
  rw [e]
  exact h
theorem dAdd_some {x y d : PyData} (h : dAdd x y = some d) : (∃ i j, x = .int i ∧ y = .int j ∧ d = .int (i + j)) ∨ (∃ a b, x = .str a ∧ y = .str b ∧ a.length + b.length ≤ 16777216 ∧ d = .str (a ++ b)) ∨
    (∃ xs ys, x = .list xs ∧ y = .list ys ∧ xs.length + ys.length ≤ 16777216 ∧ d = .list (xs ++ ys)) ∨ (∃ xs ys, x = .tuple xs ∧ y = .tuple ys ∧ (xs.length + ys.length ≤ 16777216 ∧ xs ≠ []) ∧ d = .tuple (xs ++ ys)) := by
  cases x <;> cases y <;> simp only [dAdd] at h <;> first | (cases h; done) | skip
  · cases h; exact .inl ⟨_, _, rfl, rfl, rfl⟩
  · split at h
    · cases h; exact .inr (.inl ⟨_, _, rfl, rfl, by assumption, rfl⟩)
    · cases h
  · split at h
    · cases h; exact .inr (.inr (.inl ⟨_, _, rfl, rfl, by assumption, rfl⟩))
    · cases h
  · split at h
    · cases h; exact .inr (.inr (.inr ⟨_, _, rfl, rfl, by assumption, rfl⟩))
    · cases h
theorem op_dAdd : OpR X (binaryOp .Add) (r2D X.K dAdd) := by
  intro pins s σ H x y v u Q I rx ry ⟨G, dx, dy, d, gh, bx, b2, eg, q⟩
  rcases dAdd_some eg with ⟨i, j, rfl, rfl, rfl⟩ | ⟨a, b, rfl, rfl, hl, rfl⟩ | ⟨xs, ys, rfl, rfl, hl, rfl⟩ | ⟨xs, ys, rfl, rfl, ⟨hl, hn⟩, rfl⟩
  · exact op_add pins s σ H x y v u Q I rx ry ⟨i, j, bx.int, b2.int, q _ G H (Stp.refl gh) (.int _)⟩
  · exact op_add_str pins s σ H x y v u Q I rx ry ⟨a, b, bx.str, b2.str, hl, q _ G H (Stp.refl gh) (.str _)⟩
  · obtain ⟨p, vs, rfl, hp, da⟩ := bx.list gh
    obtain ⟨p2, vs2, rfl, hp2, da2⟩ := b2.list gh
    cases rx
    cases ry
    obtain ⟨its, rv, pl, _⟩ := I.list hp
    obtain ⟨its2, rv2, pl2, _⟩ := I.list hp2
    have l1 := rv.length
    have l2 := rv2.length
    have l3 := da.length
    have l4 := da2.length
    have l5 := line_eq
    refine add_plain pl.isList pl2.isList ?_ (by omega)
    have hn : H s.heap.objs.size = none := I.fresh
    have sg := Stp.newF (p := s.heap.objs.size) (o := .lst (vs ++ vs2)) gh hn
    exact ⟨.ref _, _, I.lnew (t' := s.toks) (rv.append rv2) (by rw [List.length_append]; omega), rfl, q _ _ _ sg (.lst (SqL.of upd_same) ((dpAll_mono sg.gg _ _ da).append (dpAll_mono sg.gg _ _ da2)))⟩
  · obtain ⟨p, vs, rfl, hp, da⟩ := bx.tup gh
    obtain ⟨p2, vs2, rfl, hp2, da2⟩ := b2.tup gh
    have l3 := da.length
    have l4 := da2.length
    refine op_catT pins s σ H _ _ v u Q I rx ry ⟨p, p2, vs, vs2, rfl, rfl, hp, hp2, fun z => hn (by subst z; cases da; rfl), by rw [line_eq]; omega, fun z => ?_, fun z p' hp' => ?_⟩
    · subst z
      cases da2
      have dx : Dp X.K G (.ref p) (.tuple xs) := by
        rcases bx with b | ⟨_, _, _, _, e, _⟩
        · exact b
        · cases e
      rw [List.append_nil] at q
      exact q _ G H (Stp.refl gh) dx
    · have sg := Stp.newF (p := p') (o := .tup (vs ++ vs2)) gh hp'
      exact q _ _ _ sg (.tup (SqT.of upd_same) ((dpAll_mono sg.gg _ _ da).append (dpAll_mono sg.gg _ _ da2)))
theorem op_of {f : Value → Value → Sem Value} {g : PyData → PyData → Option PyData} {r : R2} (h : OpR X f r)
    (k : ∀ G x y dx dy d H (Q : VK), Same G H → Bd X.K G H x dx → Bd X.K G H y dy → g dx dy = some d → (∀ v G' H', Stp G H G' H' → Dp X.K G' v d → Q v H') → r x y H Q) : OpR X f (r2D X.K g) :=
  fun pins s σ H x y v u Q I rx ry ⟨G, dx, dy, d, gh, bx, b2, eg, q⟩ => h pins s σ H x y v u Q I rx ry (k G x y dx dy d H Q gh bx b2 eg q)
theorem op_dSub : OpR X (binaryOp .Sub) (r2D X.K dSub) := op_of op_sub fun G x y dx dy d H Q gh bx b2 eg q => by
  cases dx <;> cases dy <;> simp only [dSub] at eg <;> first | (cases eg; done) | skip
  cases eg; exact ⟨_, _, bx.int, b2.int, q _ G H (Stp.refl gh) (.int _)⟩
theorem op_dMul : OpR X (binaryOp .Mult) (r2D X.K dMul) := op_of op_mul fun G x y dx dy d H Q gh bx b2 eg q => by
  cases dx <;> cases dy <;> simp only [dMul] at eg <;> first | (cases eg; done) | skip
  split at eg
  · cases eg; exact ⟨_, _, bx.int, b2.int, by assumption, q _ G H (Stp.refl gh) (.int _)⟩
  · cases eg
theorem op_dMod : OpR X (binaryOp .Mod) (r2D X.K dMod) := op_of op_mod fun G x y dx dy d H Q gh bx b2 eg q => by
  cases dx <;> cases dy <;> simp only [dMod] at eg <;> first | (cases eg; done) | skip
  split at eg
  · cases eg; exact ⟨_, _, bx.int, b2.int, by assumption, q _ G H (Stp.refl gh) (.int _)⟩
  · cases eg
theorem op_dDiv : OpR X (binaryOp .FloorDiv) (r2D X.K dDiv) := op_of op_fdiv fun G x y dx dy d H Q gh bx b2 eg q => by
  cases dx <;> cases dy <;> simp only [dDiv] at eg <;> first | (cases eg; done) | skip
  split at eg
  · cases eg; exact ⟨_, _, bx.int, b2.int, by assumption, q _ G H (Stp.refl gh) (.int _)⟩
  · cases eg
theorem op_dPow : OpR X (binaryOp .Pow) (r2D X.K dPow) := op_of op_pow fun G x y dx dy d H Q gh bx b2 eg q => by
  cases dx <;> cases dy <;> simp only [dPow] at eg <;> first | (cases eg; done) | skip
  split at eg
  · cases eg; exact ⟨_, _, bx.int, b2.int, by assumption, q _ G H (Stp.refl gh) (.int _)⟩
  · cases eg
/-- -x -/
def f1 (g : PyData → Option PyData) (F : Fd) : Fd := fun ρ => (F ρ).bind g
def dNeg : PyData → Option PyData
  | .int i => some (.int (-i))
  | _ => none
theorem d_neg {a : Expr} {pos : Pos} {O : Os} {F : Fd} (h : PE X a (RB X.K O F)) : PE X (.UnaryOp .USub a pos) (RD X.K O (f1 dNeg F)) := pe_imp (pe_un un_neg h) fun σ H Q ⟨Γ, G, ρ, d, R, ef, q⟩ => by
  unfold f1 at ef
  cases e : F ρ with
  | none => rw [e] at ef; cases ef
  | some z =>
    rw [e] at ef
    cases z with
    | int i => cases ef; exact ⟨Γ, G, ρ, _, R, e, fun v G' H' s b => ⟨i, b.int, q _ G' H' s (.int _)⟩⟩
    | none => cases ef
    | bool _ => cases ef
    | str _ => cases ef
    | list _ => cases ef
    | tuple _ => cases ef
    | dict _ => cases ef

/-! ### comparisons: ==, != of any data; < of whole numbers, of alike data; in -/
/-- not deeper than a hundred -/
def shal (d : PyData) : Bool := decide (d.depth ≤ 100)
def dEq (x y : PyData) : Option PyData := if shal x ∨ shal y then some (.bool (PyData.eqv x y)) else none
def dNe (x y : PyData) : Option PyData := if shal x ∨ shal y then some (.bool (!PyData.eqv x y)) else none
theorem shal_min {x y : PyData} {n : Nat} (h : shal x = true ∨ shal y = true) (hu : n + 200 < cLine) : n + min x.depth y.depth < cLine := by
  have h' : x.depth ≤ 100 ∨ y.depth ≤ 100 := by
    rcases h with h | h
    · exact .inl (of_decide_eq_true h)
    · exact .inr (of_decide_eq_true h)
  omega
theorem op_dEq (hu : X.A.units + 200 < cLine) : OpR X (compareOp .Eq) (r2D X.K dEq) := by
  intro pins s σ H x y v u Q I rx ry ⟨G, dx, dy, d, gh, bx, b2, eg, q⟩
  unfold dEq at eg
  split at eg
  · rename_i hs
    cases eg
    obtain ⟨as, r1⟩ := Dp.reads I dx x v (bx.dp gh) rx
    obtain ⟨bs, r2⟩ := Dp.reads I dy y u (b2.dp gh) ry
    exact SeqAt.eq_plain r1 r2 (bx.plain gh) (b2.plain gh) (shal_min hs hu) ⟨.bl _, H, I, rfl, q _ G H (Stp.refl gh) (.bl _)⟩
  · cases eg
theorem op_dNe (hu : X.A.units + 200 < cLine) : OpR X (compareOp .NotEq) (r2D X.K dNe) := by
  intro pins s σ H x y v u Q I rx ry ⟨G, dx, dy, d, gh, bx, b2, eg, q⟩
  unfold dNe at eg
  split at eg
  · rename_i hs
    cases eg
    obtain ⟨as, r1⟩ := Dp.reads I dx x v (bx.dp gh) rx
    obtain ⟨bs, r2⟩ := Dp.reads I dy y u (b2.dp gh) ry
    exact SeqAt.ne_plain r1 r2 (bx.plain gh) (b2.plain gh) (shal_min hs hu) ⟨.bl _, H, I, rfl, q _ G H (Stp.refl gh) (.bl _)⟩
  · cases eg
def dLt : PyData → PyData → Option PyData
  | .int i, .int j => some (.bool (decide (i < j)))
  | .tuple xs, .tuple ys => if PySem.W.alike (.tuple xs) (.tuple ys) ∧ (shal (.tuple xs) ∨ shal (.tuple ys)) then some (.bool (PySem.W.dataLt (.tuple xs) (.tuple ys))) else none
  | _, _ => none
def dLe : PyData → PyData → Option PyData
  | .int i, .int j => some (.bool (decide (i ≤ j)))
  | _, _ => none
def dGt : PyData → PyData → Option PyData
  | .int i, .int j => some (.bool (decide (j < i)))
  | _, _ => none
def dGe : PyData → PyData → Option PyData
  | .int i, .int j => some (.bool (decide (j ≤ i)))
  | _, _ => none
theorem op_dLt (hu : X.A.units + 200 < cLine) : OpR X (compareOp .Lt) (r2D X.K dLt) := by
  intro pins s σ H x y v u Q I rx ry ⟨G, dx, dy, d, gh, bx, b2, eg, q⟩
  have two : (∃ i j, dx = .int i ∧ dy = .int j ∧ d = .bool (decide (i < j))) ∨ (∃ xs ys, dx = .tuple xs ∧ dy = .tuple ys ∧ PySem.W.alike (.tuple xs) (.tuple ys) = true ∧ (shal (.tuple xs) = true ∨ shal (.tuple ys) = true) ∧ d = .bool (PySem.W.dataLt (.tuple xs) (.tuple ys))) := by
    cases dx <;> cases dy <;> simp only [dLt] at eg <;> first | (cases eg; done) | skip
    · cases eg; exact .inl ⟨_, _, rfl, rfl, rfl⟩
    · split at eg
      · rename_i hs
        cases eg; exact .inr ⟨_, _, rfl, rfl, hs.1, hs.2, rfl⟩
      · cases eg
  rcases two with ⟨i, j, rfl, rfl, rfl⟩ | ⟨xs, ys, rfl, rfl, ha, hs, rfl⟩
  · exact op_lt pins s σ H x y v u Q I rx ry ⟨i, j, bx.int, b2.int, q _ G H (Stp.refl gh) (.bl _)⟩
  · obtain ⟨as, r1⟩ := Dp.reads I _ x v (bx.dp gh) rx
    obtain ⟨bs, r2⟩ := Dp.reads I _ y u (b2.dp gh) ry
    exact PySem.W.lt_data r1 r2 ha (fun z => nomatch z) (shal_min hs hu) ⟨.bl _, H, I, rfl, q _ G H (Stp.refl gh) (.bl _)⟩
theorem op_dLe : OpR X (compareOp .LtE) (r2D X.K dLe) := op_of op_le fun G x y dx dy d H Q gh bx b2 eg q => by
  cases dx <;> cases dy <;> simp only [dLe] at eg <;> first | (cases eg; done) | skip
  cases eg; exact ⟨_, _, bx.int, b2.int, q _ G H (Stp.refl gh) (.bl _)⟩
theorem op_dGt : OpR X (compareOp .Gt) (r2D X.K dGt) := op_of op_gt fun G x y dx dy d H Q gh bx b2 eg q => by
  cases dx <;> cases dy <;> simp only [dGt] at eg <;> first | (cases eg; done) | skip
  cases eg; exact ⟨_, _, bx.int, b2.int, q _ G H (Stp.refl gh) (.bl _)⟩
theorem op_dGe : OpR X (compareOp .GtE) (r2D X.K dGe) := op_of op_ge fun G x y dx dy d H Q gh bx b2 eg q => by
  cases dx <;> cases dy <;> simp only [dGe] at eg <;> first | (cases eg; done) | skip
  cases eg; exact ⟨_, _, bx.int, b2.int, q _ G H (Stp.refl gh) (.bl _)⟩
def anyEq (xs : List PyData) (d : PyData) : Bool := xs.any fun y => PyData.eqv y d
def dIn : PyData → PyData → Option PyData
  | d, .list xs => if shal (.list xs) ∨ shal d then some (.bool (anyEq xs d)) else none
  | d, .tuple xs => if shal (.tuple xs) ∨ shal d then some (.bool (anyEq xs d)) else none
  | _, _ => none
def dNotIn : PyData → PyData → Option PyData
  | d, .list xs => if shal (.list xs) ∨ shal d then some (.bool (!anyEq xs d)) else none
  | d, .tuple xs => if shal (.tuple xs) ∨ shal d then some (.bool (!anyEq xs d)) else none
  | _, _ => none
theorem shal_minL {xs : List PyData} {y : PyData} {n : Nat} (h : shal (.list xs) = true ∨ shal y = true) (hu : n + 200 < cLine) : n + 1 + min (PyData.depthAll xs) y.depth < cLine := by
  have h' : PyData.depth (.list xs) ≤ 100 ∨ y.depth ≤ 100 := by
    rcases h with h | h
    · exact .inl (of_decide_eq_true h)
    · exact .inr (of_decide_eq_true h)
  simp only [PyData.depth] at h'
  omega
theorem shal_minT {xs : List PyData} {y : PyData} {n : Nat} (h : shal (.tuple xs) = true ∨ shal y = true) (hu : n + 200 < cLine) : n + 1 + min (PyData.depthAll xs) y.depth < cLine := by
  have h' : PyData.depth (.tuple xs) ≤ 100 ∨ y.depth ≤ 100 := by
    rcases h with h | h
    · exact .inl (of_decide_eq_true h)
    · exact .inr (of_decide_eq_true h)
  simp only [PyData.depth] at h'
  omega
theorem plainL {xs : List PyData} (h : PyData.plain (.list xs) = true) : PyData.plainAll xs = true := by simpa only [PyData.plain] using h
theorem plainT {xs : List PyData} (h : PyData.plain (.tuple xs) = true) : PyData.plainAll xs = true := by simpa only [PyData.plain] using h
theorem op_dIn (hu : X.A.units + 200 < cLine) : OpR X (compareOp .In) (r2D X.K dIn) := by
  intro pins s σ H x y v u Q I rx ry ⟨G, dx, dy, d, gh, bx, b2, eg, q⟩
  obtain ⟨as, r1⟩ := Dp.reads I dx x v (bx.dp gh) rx
  obtain ⟨bs, r2⟩ := Dp.reads I dy y u (b2.dp gh) ry
  cases dy <;> simp only [dIn] at eg <;> first | (cases eg; done) | skip
  · split at eg
    · rename_i hs
      cases eg
      exact SeqAt.in_list_data r2 r1 (plainL (b2.plain gh)) (bx.plain gh) (shal_minL hs hu) ⟨.bl _, H, I, rfl, q _ G H (Stp.refl gh) (.bl _)⟩
    · cases eg
  · split at eg
    · rename_i hs
      cases eg
      exact SeqAt.in_tuple_data r2 r1 (plainT (b2.plain gh)) (bx.plain gh) (shal_minT hs hu) ⟨.bl _, H, I, rfl, q _ G H (Stp.refl gh) (.bl _)⟩
    · cases eg
theorem op_dNotIn (hu : X.A.units + 200 < cLine) : OpR X (compareOp .NotIn) (r2D X.K dNotIn) := by
  intro pins s σ H x y v u Q I rx ry ⟨G, dx, dy, d, gh, bx, b2, eg, q⟩
  obtain ⟨as, r1⟩ := Dp.reads I dx x v (bx.dp gh) rx
  obtain ⟨bs, r2⟩ := Dp.reads I dy y u (b2.dp gh) ry
  cases dy <;> simp only [dNotIn] at eg <;> first | (cases eg; done) | skip
  · split at eg
    · rename_i hs
      cases eg
      exact SeqAt.notIn_list_data r2 r1 (plainL (b2.plain gh)) (bx.plain gh) (shal_minL hs hu) ⟨.bl _, H, I, rfl, q _ G H (Stp.refl gh) (.bl _)⟩
    · cases eg
  · split at eg
    · rename_i hs
      cases eg
      exact SeqAt.notIn_tuple_data r2 r1 (plainT (b2.plain gh)) (bx.plain gh) (shal_minT hs hu) ⟨.bl _, H, I, rfl, q _ G H (Stp.refl gh) (.bl _)⟩
    · cases eg
end
end Dat
open PySem PySem.Spec PyProof.Rows L2
namespace Dat

/-! ### subscripts -/
def dIx : PyData → PyData → Option PyData
  | .list xs, .int i => atI xs i
  | .tuple xs, .int i => atI xs i
  | _, _ => none
theorem atI_dp {K : PySem.W.Frag} {G : Hp} {vs : List V} {ds : List PyData} {i : Int} {d : PyData} (h : DpAll K G vs ds) (e : atI ds i = some d) : ∃ v, atI vs i = some v ∧ Dp K G v d := by
  unfold atI at e ⊢
  rw [h.length]
  cases q : ixN ds.length i with
  | none => rw [q] at e; cases e
  | some j =>
    rw [q] at e
    exact h.get (i := j) e
section
variable {X : Cx} {a b : Expr} {pos : Pos} {O : Os} {F F' : Fd} {L : Fl}
theorem ix_dIx : IxR X (r2D X.K dIx) := by
  intro value slice pins s σ H x y v u Q I rx ry ⟨G, dx, dy, d, gh, bx, b2, eg, q⟩ hs
  cases dx <;> cases dy <;> simp only [dIx] at eg <;> first | (cases eg; done) | skip
  · obtain ⟨p, vs, rfl, hp, da⟩ := bx.list gh
    obtain ⟨w, ew, dw⟩ := atI_dp da eg
    exact ix_list value slice pins s σ H _ y v u Q I rx ry ⟨p, vs, _, w, rfl, b2.int, hp, ew, q w G H (Stp.refl gh) dw⟩ hs
  · obtain ⟨p, vs, rfl, hp, da⟩ := bx.tup gh
    obtain ⟨w, ew, dw⟩ := atI_dp da eg
    exact ix_tup value slice pins s σ H _ y v u Q I rx ry ⟨p, vs, _, w, rfl, b2.int, hp, ew, q w G H (Stp.refl gh) dw⟩ hs
theorem d_ix (ha : PE X a (RB X.K O F)) (hb : PE X b (RB X.K O F')) (hs : PlainIx b) : PE X (.Subscript a b pos) (RD X.K O (f2 dIx F F')) :=
  pe_imp (pe_ix ix_dIx ha hb hs) fun σ H Q h => top_imp h

/-! ### slices -/
def RP (K : PySem.W.Frag) (O : Os) (P : Dv → Option (Option Int)) : TO := fun σ H Q => ∃ Γ G ρ o, Rep K Γ G H O σ ρ ∧ P ρ = some o ∧ ∀ G' H', Stp G H G' H' → Q o H'
def noP : Dv → Option (Option Int) := fun _ => some none
def asI (F : Fd) : Dv → Option Int := fun ρ => (F ρ).bind fun d => match d with | .int i => some i | _ => none
theorem asI_some {ρ : Dv} {i : Int} (h : asI F ρ = some i) : F ρ = some (.int i) := by
  unfold asI at h
  cases e : F ρ with
  | none => rw [e] at h; cases h
  | some d =>
    rw [e] at h
    cases d <;> first | (cases h; rfl) | (cases h; done)
def someP (F : Fd) : Dv → Option (Option Int) := fun ρ => (asI F ρ).map some
theorem p_none : PO X none (RP X.K O noP) := ⟨fun pins s σ H Q I ⟨Γ, G, ρ, o, R, e, q⟩ => by cases e; exact po_none.run pins s σ H Q I (q G H (Stp.refl R.gh))⟩
theorem p_some (h : PE X a (RB X.K O F)) : PO X (some a) (RP X.K O (someP F)) := ⟨fun pins s σ H Q I ⟨Γ, G, ρ, o, R, e, q⟩ => by
  unfold someP at e
  cases e1 : asI F ρ with
  | none => rw [e1] at e; cases e
  | some i =>
    rw [e1] at e; cases e
    exact (po_some h).run pins s σ H Q I ⟨Γ, G, ρ, _, R, asI_some e1, fun v G' H' s b => ⟨i, b.int, q G' H' s⟩⟩⟩
def cutD (xs : List PyData) (lo hi : Option Int) : List PyData := (xs.drop (HT.sIx xs.length 0 lo)).take (HT.sIx xs.length xs.length hi - HT.sIx xs.length 0 lo)
theorem cut_dp {K : PySem.W.Frag} {G : Hp} {vs : List V} {ds : List PyData} (lo hi : Option Int) (h : DpAll K G vs ds) : DpAll K G (cutV vs lo hi) (cutD ds lo hi) := by
  unfold cutV cutD
  rw [h.length]
  exact (h.drop _).take _
/-- a tuple's slice: a part of it (the whole is the same object: not here) -/
def dSlT (d : PyData) (lo hi : Option Int) : Option PyData := match d with
  | .tuple xs => if ¬ (HT.sIx xs.length 0 lo = 0 ∧ HT.sIx xs.length xs.length hi = xs.length) then some (.tuple (cutD xs lo hi)) else none
  | _ => none
def dSlL (d : PyData) (lo hi : Option Int) : Option (List PyData) := match d with
  | .list xs => some (cutD xs lo hi)
  | _ => none
def slF {α : Type} (g : PyData → Option Int → Option Int → Option α) (F : Fd) (P P' : Dv → Option (Option Int)) : Dv → Option α := fun ρ => (F ρ).bind fun d => (P ρ).bind fun lo => (P' ρ).bind fun hi => g d lo hi
theorem slF_some {α : Type} {g : PyData → Option Int → Option Int → Option α} {P P' : Dv → Option (Option Int)} {ρ : Dv} {y : α} (h : slF g F P P' ρ = some y) : ∃ d lo hi, F ρ = some d ∧ P ρ = some lo ∧ P' ρ = some hi ∧ g d lo hi = some y := by
  unfold slF at h
  cases e1 : F ρ with
  | none => rw [e1] at h; cases h
  | some d =>
    cases e2 : P ρ with
    | none => rw [e1, e2] at h; cases h
    | some lo =>
      cases e3 : P' ρ with
      | none => rw [e1, e2, e3] at h; cases h
      | some hi => rw [e1, e2, e3] at h; exact ⟨d, lo, hi, rfl, rfl, rfl, h⟩
theorem d_slT {lo hi : Option Expr} {p2 : Pos} {P P' : Dv → Option (Option Int)} (ha : PE X a (RB X.K O F)) (hl : PO X lo (RP X.K O P)) (hu : PO X hi (RP X.K O P')) : PE X (.Subscript a (.Slice lo hi none p2) pos) (RD X.K O (slF dSlT F P P')) :=
  pe_imp (pe_slice sl_tup ha hl hu) fun σ H Q ⟨Γ, G, ρ, d, R, ef, q⟩ => by
    obtain ⟨dx, lo, hi, e1, e2, e3, e4⟩ := slF_some ef
    refine ⟨Γ, G, ρ, dx, R, e1, fun x G1 H1 s1 bx => ⟨Γ, G1, ρ, lo, R.stp s1, e2, fun G2 H2 s2 => ⟨Γ, G2, ρ, hi, (R.stp s1).stp s2, e3, fun G3 H3 s3 => ?_⟩⟩⟩
    cases dx <;> simp only [dSlT] at e4 <;> first | (cases e4; done) | skip
    split at e4
    · rename_i hw
      cases e4
      obtain ⟨p, vs, rfl, hp, da⟩ := ((bx.stp s2).stp s3).tup s3.gh
      refine ⟨p, vs, rfl, hp, by rw [da.length]; exact hw, fun p' hp' => ?_⟩
      have sg := Stp.newF (p := p') (o := .tup (cutV vs lo hi)) s3.gh hp'
      exact q _ _ _ (((s1.trans s2).trans s3).trans sg) (.tup (SqT.of upd_same) (dpAll_mono sg.gg _ _ (cut_dp lo hi da)))
    · cases e4
theorem o_slL {lo hi : Option Expr} {p2 : Pos} {P P' : Dv → Option (Option Int)} (ha : PE X a (RB X.K O F)) (hl : PO X lo (RP X.K O P)) (hu : PO X hi (RP X.K O P')) : PE X (.Subscript a (.Slice lo hi none p2) pos) (RO X.K O (slF dSlL F P P')) :=
  pe_imp (pe_slice sl_list ha hl hu) fun σ H Q ⟨Γ, G, ρ, d, R, ef, q⟩ => by
    obtain ⟨dx, lo, hi, e1, e2, e3, e4⟩ := slF_some ef
    refine ⟨Γ, G, ρ, dx, R, e1, fun x G1 H1 s1 bx => ⟨Γ, G1, ρ, lo, R.stp s1, e2, fun G2 H2 s2 => ⟨Γ, G2, ρ, hi, (R.stp s1).stp s2, e3, fun G3 H3 s3 => ?_⟩⟩⟩
    cases dx <;> simp only [dSlL] at e4 <;> first | (cases e4; done) | skip
    cases e4
    obtain ⟨p, vs, rfl, hp, da⟩ := ((bx.stp s2).stp s3).list s3.gh
    refine ⟨p, vs, rfl, hp, fun p' hp' => ?_⟩
    have sg := Stp.new (p := p') (o := .lst (cutV vs lo hi)) s3.gh hp'
    have s4 := (s1.trans s2).trans s3
    exact q _ _ _ _ (s4.trans sg) (s4.hh.free hp') (s3.gh.free hp') upd_same (cut_dp lo hi da)

/-! ### calls of built-ins -/
def rL (K : PySem.W.Frag) (g : List PyData → Option PyData) : List V → Hp → VK → Prop := fun vs H Q => ∃ G ds d, Same G H ∧ BdAll K G H vs ds ∧ g ds = some d ∧ ∀ v G' H', Stp G H G' H' → Dp K G' v d → Q v H'
def rLo (K : PySem.W.Frag) (g : List PyData → Option (List PyData)) : List V → Hp → VK → Prop := fun vs H Q => ∃ G ds es, Same G H ∧ BdAll K G H vs ds ∧ g ds = some es ∧
  ∀ p xs G' H', Stp G H G' H' → H p = none → G' p = none → H' p = some (.lst xs) → DpAll K G' xs es → Q (.ref p) H'
def fL {α : Type} (g : List PyData → Option α) (L : Fl) : Dv → Option α := fun ρ => (L ρ).bind g
theorem fL_some {α : Type} {g : List PyData → Option α} {ρ : Dv} {y : α} (h : fL g L ρ = some y) : ∃ ds, L ρ = some ds ∧ g ds = some y := by
  unfold fL at h
  cases e : L ρ with
  | none => rw [e] at h; cases h
  | some ds => rw [e] at h; exact ⟨ds, rfl, h⟩
variable {e : Expr} {es : List Expr} {x : Str} {p : Pos}
theorem cb_imp {g : List PyData → Option PyData} {σ : L2.St} {H : Hp} {Q : VK} (h : RD X.K O (fL g L) σ H Q) : tCB (rL X.K g) (RAb X.K O L) σ H Q := by
  obtain ⟨Γ, G, ρ, d, R, ef, q⟩ := h
  obtain ⟨ds, e1, e2⟩ := fL_some ef
  exact ⟨Γ, G, ρ, ds, R, e1, fun vs G1 H1 s1 b => ⟨G1, ds, d, s1.gh, b, e2, fun v G' H' s dv => q v G' H' (s1.trans s) dv⟩⟩
theorem cbo_imp {g : List PyData → Option (List PyData)} {σ : L2.St} {H : Hp} {Q : VK} (h : RO X.K O (fL g L) σ H Q) : tCB (rLo X.K g) (RAb X.K O L) σ H Q := by
  obtain ⟨Γ, G, ρ, ys, R, ef, q⟩ := h
  obtain ⟨ds, e1, e2⟩ := fL_some ef
  exact ⟨Γ, G, ρ, ds, R, e1, fun vs G1 H1 s1 b => ⟨G1, ds, ys, s1.gh, b, e2, fun p xs G' H' s n g hp da => q p xs G' H' (s1.trans s) (s1.hh.free n) g hp da⟩⟩
theorem d_callB {id : String} {g : List PyData → Option PyData} (hc : CallR X (.builtin id) (rL X.K g)) (hg : Gl X x) (hm : X.mg x = none) (hv : bootBuiltins x = some (.builtin id)) (ha : PA X (e :: es) (RAb X.K O L)) (hn : x ≠ "__name__" := by decide) (hdb : (x == ("__debug__" : Str)) = false := by decide)
    (he : starEach (e :: es) X.env = (false, eval e X.env) :: starEach es X.env := by rfl) (hpl : (backTo pos (starEach es X.env)).any (·.1) = false := by rfl) : PE X (.Call (.Name x p) (e :: es) [] pos) (RD X.K O (fL g L)) :=
  pe_imp (pe_callB hc hg hm hv ha hn hdb he hpl) fun σ H Q h => cb_imp h
theorem d_callT {T : String} {g : List PyData → Option PyData} (hc : CallR X (.type T) (rL X.K g)) (hg : Gl X x) (hm : X.mg x = none) (hv : bootBuiltins x = some (.type T)) (ha : PA X (e :: es) (RAb X.K O L)) (hn : x ≠ "__name__" := by decide) (hdb : (x == ("__debug__" : Str)) = false := by decide)
    (he : starEach (e :: es) X.env = (false, eval e X.env) :: starEach es X.env := by rfl) (hpl : (backTo pos (starEach es X.env)).any (·.1) = false := by rfl) : PE X (.Call (.Name x p) (e :: es) [] pos) (RD X.K O (fL g L)) :=
  pe_imp (pe_callTy hc hg hm hv ha hn hdb he hpl) fun σ H Q h => cb_imp h
theorem o_callB {id : String} {g : List PyData → Option (List PyData)} (hc : CallR X (.builtin id) (rLo X.K g)) (hg : Gl X x) (hm : X.mg x = none) (hv : bootBuiltins x = some (.builtin id)) (ha : PA X (e :: es) (RAb X.K O L)) (hn : x ≠ "__name__" := by decide) (hdb : (x == ("__debug__" : Str)) = false := by decide)
    (he : starEach (e :: es) X.env = (false, eval e X.env) :: starEach es X.env := by rfl) (hpl : (backTo pos (starEach es X.env)).any (·.1) = false := by rfl) : PE X (.Call (.Name x p) (e :: es) [] pos) (RO X.K O (fL g L)) :=
  pe_imp (pe_callB hc hg hm hv ha hn hdb he hpl) fun σ H Q h => cbo_imp h
theorem o_callT {T : String} {g : List PyData → Option (List PyData)} (hc : CallR X (.type T) (rLo X.K g)) (hg : Gl X x) (hm : X.mg x = none) (hv : bootBuiltins x = some (.type T)) (ha : PA X (e :: es) (RAb X.K O L)) (hn : x ≠ "__name__" := by decide) (hdb : (x == ("__debug__" : Str)) = false := by decide)
    (he : starEach (e :: es) X.env = (false, eval e X.env) :: starEach es X.env := by rfl) (hpl : (backTo pos (starEach es X.env)).any (·.1) = false := by rfl) : PE X (.Call (.Name x p) (e :: es) [] pos) (RO X.K O (fL g L)) :=
  pe_imp (pe_callTy hc hg hm hv ha hn hdb he hpl) fun σ H Q h => cbo_imp h
theorem BdAll.one {K : PySem.W.Frag} {G H : Hp} {vs : List V} {d : PyData} (h : BdAll K G H vs [d]) : ∃ v, vs = [v] ∧ Bd K G H v d := by
  cases h with | cons a t => cases t; exact ⟨_, rfl, a⟩
theorem BdAll.two {K : PySem.W.Frag} {G H : Hp} {vs : List V} {d d' : PyData} (h : BdAll K G H vs [d, d']) : ∃ v v', vs = [v, v'] ∧ Bd K G H v d ∧ Bd K G H v' d' := by
  cases h with | cons a t => cases t with | cons b t => cases t; exact ⟨_, _, rfl, a, b⟩
/-- the whole numbers that the data are -/
def intsD : List PyData → Option (List Int)
  | [] => some []
  | .int i :: r => (intsD r).map (i :: ·)
  | _ :: _ => none
theorem intsD_dp {K : PySem.W.Frag} {G : Hp} : ∀ {ds : List PyData} {ns : List Int} {vs : List V}, intsD ds = some ns → DpAll K G vs ds → vs = ns.map V.int
  | [], _, _, e, h => by cases e; cases h; rfl
  | d :: r, ns, _, e, h => by
    cases h with
    | cons a t =>
      cases d with
      | int i =>
        simp only [intsD] at e
        cases q : intsD r with
        | none => rw [q] at e; cases e
        | some ms =>
          rw [q] at e; cases e
          cases a
          rw [intsD_dp q t]; rfl
      | none => cases e
      | bool _ => cases e
      | str _ => cases e
      | list _ => cases e
      | tuple _ => cases e
      | dict _ => cases e
def dLen : List PyData → Option PyData
  | [.list xs] => some (.int xs.length)
  | [.tuple xs] => some (.int xs.length)
  | _ => none
theorem c_len : CallR X (.builtin "len") (rL X.K dLen) := by
  intro pins s σ H vs us Q I r ⟨G, ds, d, gh, b, eg, q⟩
  have two : (∃ xs, ds = [.list xs] ∧ d = .int xs.length) ∨ (∃ xs, ds = [.tuple xs] ∧ d = .int xs.length) := by
    unfold dLen at eg
    split at eg
    · cases eg; exact .inl ⟨_, rfl, rfl⟩
    · cases eg; exact .inr ⟨_, rfl, rfl⟩
    · cases eg
  rcases two with ⟨xs, rfl, rfl⟩ | ⟨xs, rfl, rfl⟩
  · obtain ⟨v, rfl, bv⟩ := b.one
    obtain ⟨p, ws, rfl, hp, da⟩ := bv.list gh
    exact call_len_seq pins s σ H _ us Q I r ⟨p, ws, rfl, .inl hp, q _ G H (Stp.refl gh) (by rw [da.length]; exact .int _)⟩
  · obtain ⟨v, rfl, bv⟩ := b.one
    obtain ⟨p, ws, rfl, hp, da⟩ := bv.tup gh
    exact call_len_seq pins s σ H _ us Q I r ⟨p, ws, rfl, .inr hp, q _ G H (Stp.refl gh) (by rw [da.length]; exact .int _)⟩
def dSum : List PyData → Option PyData
  | [.list xs] => (intsD xs).map fun ns => .int ns.sum
  | _ => none
theorem c_sum (hc : X.calm = true) : CallR X (.builtin "sum") (rL X.K dSum) := by
  intro pins s σ H vs us Q I r ⟨G, ds, d, gh, b, eg, q⟩
  unfold dSum at eg
  split at eg
  · rename_i xs
    cases e1 : intsD xs with
    | none => rw [e1] at eg; cases eg
    | some ns =>
      rw [e1] at eg; cases eg
      obtain ⟨v, rfl, bv⟩ := b.one
      obtain ⟨p, ws, rfl, hp, da⟩ := bv.list gh
      have ew := intsD_dp e1 da
      subst ew
      exact cr_sum hc pins s σ H _ us Q I r ⟨p, ns, rfl, hp, q _ G H (Stp.refl gh) (.int _)⟩
  · cases eg
def dMax : List PyData → Option PyData
  | [.list xs] => (intsD xs).bind fun ns => ns.max?.map .int
  | [.int i, .int j] => some (.int (if j > i then j else i))
  | _ => none
def dMin : List PyData → Option PyData
  | [.list xs] => (intsD xs).bind fun ns => ns.min?.map .int
  | [.int i, .int j] => some (.int (if j < i then j else i))
  | _ => none
theorem max_is {ns : List Int} {m m' : Int} (h : ns.max? = some m) (h1 : m' ∈ ns) (h2 : ∀ y, y ∈ ns → y ≤ m') : m' = m := by
  have e := (List.max?_eq_some_iff (α := Int)).mp h
  exact Int.le_antisymm (e.2 _ h1) (h2 _ e.1)
theorem min_is {ns : List Int} {m m' : Int} (h : ns.min? = some m) (h1 : m' ∈ ns) (h2 : ∀ y, y ∈ ns → m' ≤ y) : m' = m := by
  have e := (List.min?_eq_some_iff (α := Int)).mp h
  exact Int.le_antisymm (h2 _ e.1) (e.2 _ h1)
theorem c_max (hc : X.calm = true) : CallR X (.builtin "max") (rL X.K dMax) := by
  intro pins s σ H vs us Q I r ⟨G, ds, d, gh, b, eg, q⟩
  unfold dMax at eg
  split at eg
  · rename_i xs
    cases e1 : intsD xs with
    | none => rw [e1] at eg; cases eg
    | some ns =>
      rw [e1] at eg
      cases e2 : ns.max? with
      | none => rw [Option.bind_some, e2] at eg; cases eg
      | some m =>
        rw [Option.bind_some, e2] at eg; cases eg
        obtain ⟨v, rfl, bv⟩ := b.one
        obtain ⟨p, ws, rfl, hp, da⟩ := bv.list gh
        have ew := intsD_dp e1 da
        subst ew
        refine cr_max hc pins s σ H _ us Q I r ⟨p, ns, rfl, hp, ?_, fun m' h1 h2 => ?_⟩
        · cases ns with
          | nil => cases e2
          | cons _ _ => exact Nat.succ_pos _
        · rw [max_is e2 h1 h2]; exact q _ G H (Stp.refl gh) (.int _)
  · cases eg
    obtain ⟨v, v', rfl, b1, b2⟩ := b.two
    exact call_max2 hc pins s σ H _ us Q I r ⟨_, _, by rw [b1.int, b2.int], q _ G H (Stp.refl gh) (.int _)⟩
  · cases eg
theorem c_min (hc : X.calm = true) : CallR X (.builtin "min") (rL X.K dMin) := by
  intro pins s σ H vs us Q I r ⟨G, ds, d, gh, b, eg, q⟩
  unfold dMin at eg
  split at eg
  · rename_i xs
    cases e1 : intsD xs with
    | none => rw [e1] at eg; cases eg
    | some ns =>
      rw [e1] at eg
      cases e2 : ns.min? with
      | none => rw [Option.bind_some, e2] at eg; cases eg
      | some m =>
        rw [Option.bind_some, e2] at eg; cases eg
        obtain ⟨v, rfl, bv⟩ := b.one
        obtain ⟨p, ws, rfl, hp, da⟩ := bv.list gh
        have ew := intsD_dp e1 da
        subst ew
        refine cr_min hc pins s σ H _ us Q I r ⟨p, ns, rfl, hp, ?_, fun m' h1 h2 => ?_⟩
        · cases ns with
          | nil => cases e2
          | cons _ _ => exact Nat.succ_pos _
        · rw [min_is e2 h1 h2]; exact q _ G H (Stp.refl gh) (.int _)
  · cases eg
    obtain ⟨v, v', rfl, b1, b2⟩ := b.two
    exact call_min2 hc pins s σ H _ us Q I r ⟨_, _, by rw [b1.int, b2.int], q _ G H (Stp.refl gh) (.int _)⟩
  · cases eg
def boolsD : List PyData → Option (List Bool)
  | [] => some []
  | .bool i :: r => (boolsD r).map (i :: ·)
  | _ :: _ => none
theorem boolsD_dp {K : PySem.W.Frag} {G : Hp} : ∀ {ds : List PyData} {ns : List Bool} {vs : List V}, boolsD ds = some ns → DpAll K G vs ds → vs = ns.map V.bl
  | [], _, _, e, h => by cases e; cases h; rfl
  | d :: r, ns, _, e, h => by
    cases h with
    | cons a t =>
      cases d with
      | bool i =>
        simp only [boolsD] at e
        cases q : boolsD r with
        | none => rw [q] at e; cases e
        | some ms =>
          rw [q] at e; cases e
          cases a
          rw [boolsD_dp q t]; rfl
      | none => cases e
      | int _ => cases e
      | str _ => cases e
      | list _ => cases e
      | tuple _ => cases e
      | dict _ => cases e
def dAll : List PyData → Option PyData
  | [.list xs] => (boolsD xs).map fun ns => .bool (ns.all id)
  | _ => none
theorem c_all (hc : X.calm = true) : CallR X (.builtin "all") (rL X.K dAll) := by
  intro pins s σ H vs us Q I r ⟨G, ds, d, gh, b, eg, q⟩
  unfold dAll at eg
  split at eg
  · rename_i xs
    cases e1 : boolsD xs with
    | none => rw [e1] at eg; cases eg
    | some ns =>
      rw [e1] at eg; cases eg
      obtain ⟨v, rfl, bv⟩ := b.one
      obtain ⟨p, ws, rfl, hp, da⟩ := bv.list gh
      have ew := boolsD_dp e1 da
      subst ew
      exact cr_all hc pins s σ H _ us Q I r ⟨p, ns, rfl, hp, q _ G H (Stp.refl gh) (.bl _)⟩
  · cases eg
/-- list(x) -/
def dList : List PyData → Option (List PyData)
  | [.list xs] => some xs
  | [.tuple xs] => some xs
  | _ => none
theorem c_list : CallR X (.type "list") (rLo X.K dList) := by
  intro pins s σ H vs us Q I r ⟨G, ds, d, gh, b, eg, q⟩
  have two : (∃ xs, ds = [.list xs] ∧ d = xs) ∨ (∃ xs, ds = [.tuple xs] ∧ d = xs) := by
    unfold dList at eg
    split at eg
    · cases eg; exact .inl ⟨_, rfl, rfl⟩
    · cases eg; exact .inr ⟨_, rfl, rfl⟩
    · cases eg
  rcases two with ⟨xs, rfl, rfl⟩ | ⟨xs, rfl, rfl⟩
  · obtain ⟨v, rfl, bv⟩ := b.one
    obtain ⟨p, ws, rfl, hp, da⟩ := bv.list gh
    exact call_list_of pins s σ H _ us Q I r ⟨p, ws, rfl, .inl hp, fun l hl => q l _ G _ (Stp.new gh hl) hl (gh.free hl) upd_same da⟩
  · obtain ⟨v, rfl, bv⟩ := b.one
    obtain ⟨p, ws, rfl, hp, da⟩ := bv.tup gh
    exact call_list_of pins s σ H _ us Q I r ⟨p, ws, rfl, .inr hp, fun l hl => q l _ G _ (Stp.new gh hl) hl (gh.free hl) upd_same da⟩
def dTuple : List PyData → Option PyData
  | [.list xs] => some (.tuple xs)
  | [.tuple xs] => some (.tuple xs)
  | _ => none
theorem c_tuple : CallR X (.type "tuple") (rL X.K dTuple) := by
  intro pins s σ H vs us Q I r ⟨G, ds, d, gh, b, eg, q⟩
  have two : (∃ xs, ds = [.list xs] ∧ d = .tuple xs) ∨ (∃ xs, ds = [.tuple xs] ∧ d = .tuple xs) := by
    unfold dTuple at eg
    split at eg
    · cases eg; exact .inl ⟨_, rfl, rfl⟩
    · cases eg; exact .inr ⟨_, rfl, rfl⟩
    · cases eg
  rcases two with ⟨xs, rfl, rfl⟩ | ⟨xs, rfl, rfl⟩
  · obtain ⟨v, rfl, bv⟩ := b.one
    obtain ⟨p, ws, rfl, hp, da⟩ := bv.list gh
    refine call_tuple_of pins s σ H _ us Q I r ⟨p, ws, rfl, .inl ⟨hp, fun l hl => ?_⟩⟩
    have sg := Stp.newF (p := l) (o := .tup ws) gh hl
    exact q _ _ _ sg (.tup (SqT.of upd_same) (dpAll_mono sg.gg _ _ da))
  · obtain ⟨v, rfl, bv⟩ := b.one
    obtain ⟨p, ws, rfl, hp, da⟩ := bv.tup gh
    have dx : Dp X.K G (.ref p) (.tuple xs) := by
      rcases bv with b' | ⟨_, _, _, _, z, _⟩
      · exact b'
      · cases z
    exact call_tuple_of pins s σ H _ us Q I r ⟨p, ws, rfl, .inr ⟨hp, q _ G H (Stp.refl gh) dx⟩⟩
def dInt : List PyData → Option PyData
  | [.int i] => some (.int i)
  | [.bool b] => some (.int (if b then 1 else 0))
  | _ => none
theorem c_int : CallR X (.type "int") (rL X.K dInt) := by
  intro pins s σ H vs us Q I r ⟨G, ds, d, gh, b, eg, q⟩
  unfold dInt at eg
  split at eg
  · cases eg
    obtain ⟨v, rfl, bv⟩ := b.one
    exact call_int1 pins s σ H _ us Q I r (.inl ⟨_, by rw [bv.int], q _ G H (Stp.refl gh) (.int _)⟩)
  · cases eg
    obtain ⟨v, rfl, bv⟩ := b.one
    exact call_int1 pins s σ H _ us Q I r (.inr ⟨_, by rw [bv.bool], q _ G H (Stp.refl gh) (.int _)⟩)
  · cases eg
def dAbs : List PyData → Option PyData
  | [.int i] => some (.int (if i < 0 then -i else i))
  | _ => none
theorem c_abs : CallR X (.builtin "abs") (rL X.K dAbs) := by
  intro pins s σ H vs us Q I r ⟨G, ds, d, gh, b, eg, q⟩
  unfold dAbs at eg
  split at eg
  · cases eg
    obtain ⟨v, rfl, bv⟩ := b.one
    exact call_abs pins s σ H _ us Q I r ⟨_, by rw [bv.int], q _ G H (Stp.refl gh) (.int _)⟩
  · cases eg
/-- sorted(x) of alike data -/
def sortOk (xs : List PyData) : Bool := (xs.all fun x => xs.all fun y => PySem.W.alike x y) && ((xs.all fun x => match x with | .tuple (_ :: _) => true | _ => false) || xs.all fun x => match x with | .int _ => true | _ => false) && xs.all shal
def dSorted : List PyData → Option (List PyData)
  | [.list xs] => if sortOk xs then some (xs.mergeSort (PySem.W.dataLe false id)) else none
  | _ => none
theorem each_dp {K : PySem.W.Frag} {X : Cx} {pins : List (Addr × Obj)} {σ : L2.St} {H G : Hp} {s : Shared} (hK : X.K = K) (I : Inv X pins σ H s) (gh : Same G H) : ∀ {ds : List PyData} {vs : List V} {us : List Value}, DpAll K G vs ds → Vals vs us →
    PySem.W.EachIs (fun u d => ∃ v, RelV v u ∧ Dp K G v d ∧ ∃ as, Reads s.heap u d as) us ds
  | _, _, _, .nil, .nil => .nil
  | _, _, _, .cons a t, .cons r rr => by
    subst hK
    exact .cons ⟨_, r, a, Dp.reads I _ _ _ (dp_mono gh _ _ a) r⟩ (each_dp rfl I gh t rr)
theorem each_back {K : PySem.W.Frag} {G : Hp} {P : Value → PyData → Prop} : ∀ {ds : List PyData} {us : List Value}, PySem.W.EachIs (fun u d => ∃ v, RelV v u ∧ Dp K G v d ∧ P u d) us ds → ∃ vs, Vals vs us ∧ DpAll K G vs ds
  | _, _, .nil => ⟨[], .nil, .nil⟩
  | _, _, .cons ⟨v, r, d, _⟩ t => by
    obtain ⟨vs, h1, h2⟩ := each_back t
    exact ⟨v :: vs, .cons r h1, .cons d h2⟩
theorem sortOk_of {xs : List PyData} (h : sortOk xs = true) : PySem.W.AllAlike xs ∧ PySem.W.Sortable xs ∧ ∀ x, x ∈ xs → x.depth ≤ 100 := by
  unfold sortOk at h
  simp only [Bool.and_eq_true, Bool.or_eq_true, List.all_eq_true] at h
  obtain ⟨⟨h1, h2⟩, h3⟩ := h
  refine ⟨fun d hd d' hd' => h1 d hd d' hd', ?_, fun x hx => of_decide_eq_true (h3 x hx)⟩
  rcases h2 with h2 | h2
  · refine .inl fun d hd => ?_
    have := h2 d hd
    split at this
    · exact ⟨_, _, rfl⟩
    · cases this
  · refine .inr fun d hd => ?_
    have := h2 d hd
    split at this
    · exact ⟨(fun z => by cases z), (fun _ z => by cases z)⟩
    · cases this
theorem c_sorted (hu : X.A.units + 200 < cLine) : CallR X (.builtin "sorted") (rLo X.K dSorted) := by
  intro pins s σ H vs us Q I r ⟨G, ds, d, gh, b, eg, q⟩
  unfold dSorted at eg
  split at eg
  · rename_i xs
    split at eg
    · rename_i hok
      cases eg
      obtain ⟨v, rfl, bv⟩ := b.one
      obtain ⟨p, ws, rfl, hp, da⟩ := bv.list gh
      rw [Vals.ref1 r]
      obtain ⟨its, rv, pl, hz⟩ := I.list hp
      obtain ⟨k1, k2, k3⟩ := sortOk_of hok
      have e := each_dp rfl I gh da rv
      have hl : xs.length = ws.length := da.length.symm
      refine PySem.W.sorted_data (bs := xs) (enc := id) pl.isList e (e.mono fun _ _ ⟨_, _, _, z⟩ => z) (by rw [List.map_id]; exact k1) (by rw [List.map_id]; exact k2) (by rw [hl]; exact hz) (fun x hx => ?_) fun out hlen eo => ?_
      · have h1 := k3 x hx
        show X.A.units + 2 + (id x).depth < cLine
        simp only [id]
        omega
      · obtain ⟨vs', r1, d1⟩ := each_back eo
        obtain ⟨ep, he'⟩ := PyProof.Rows.sortedAll_at s.heap its (List.toArray out)
        have hfree : H (s.heap.objs.size + 1) = none := I.hok.fresh (Nat.le_succ _)
        have hl2 : vs'.length ≤ sizeLine := by rw [r1.length, hlen, hl]; exact hz
        exact ⟨.ref _, upd H (s.heap.objs.size + 1) (.lst vs'), I.laid (t' := s.toks) (fun _ _ => PyProof.Rows.sortedAll_old) (Nat.le_succ _) ⟨hl2, out, ep, r1, he'⟩, rfl, q _ _ G _ (Stp.new gh hfree) hfree (gh.free hfree) upd_same d1⟩
    · cases eg
  · cases eg

/-! ### isinstance of data -/
def dIsi (f : PyData → Bool) : PyData → Option PyData := fun d => some (.bool (f d))
def IsiOf (T : String) (f : PyData → Bool) : Prop := ∀ {prog : Program} {w : World} {A : Around} {E : Value → Shared → Prop} {s : Shared} {v : Value} {d : PyData} {as : List Addr} {Q : Value → Shared → Prop}, Reads s.heap v d as →
  (∀ tk, s.toks ≤ tk → Q (.bool (f d)) { s with toks := tk }) → wpAny (model prog w) A (call (.builtin "isinstance") [v, .type T]) Q E s
theorem isi_int : IsiOf "int" PyData.isInt := PySem.W.isinstance_int_data
theorem isi_bool : IsiOf "bool" PyData.isBool := PySem.W.isinstance_bool_data
theorem isi_str : IsiOf "str" PyData.isStr := PySem.W.isinstance_str_data
theorem isi_list : IsiOf "list" PyData.isList := PySem.W.isinstance_list_data
theorem isi_tuple : IsiOf "tuple" PyData.isTuple := PySem.W.isinstance_tuple_data
theorem isi_dict : IsiOf "dict" PyData.isDict := PySem.W.isinstance_dict_data
theorem d_isi {T : String} {f : PyData → Bool} {y : Str} {q p' : Pos} (hf : IsiOf T f) (hg : Gl X "isinstance") (hm : X.mg "isinstance" = none) (hgT : Gl X y) (hmT : X.mg y = none) (hvT : bootBuiltins y = some (.type T)) (ha : PE X e (RB X.K O F))
    (hn : y ≠ "__name__" := by decide) (hd : (y == ("__debug__" : Str)) = false := by decide)
    (hs : starEach [e, .Name y q] X.env = (false, eval e X.env) :: starEach [.Name y q] X.env := by rfl) (hs2 : starEach [.Name y q] X.env = (false, eval (.Name y q) X.env) :: starEach [] X.env := by rfl) (hpl : (backTo pos (starEach [.Name y q] X.env)).any (·.1) = false := by rfl)
    (hv : bootBuiltins "isinstance" = some (.builtin "isinstance") := by decide +kernel) :
    PE X (.Call (.Name "isinstance" p') [e, .Name y q] [] pos) (RD X.K O (f1 (dIsi f) F)) := by
  have hc : CallR X (.builtin "isinstance") (fun vs H Q => ∃ G v d, Same G H ∧ vs = [v, .ty T] ∧ Bd X.K G H v d ∧ Q (.bl (f d)) H) := by
    intro pins s σ H vs us Q I r ⟨G, v, d, gh, ev, b, q⟩
    subst ev
    obtain ⟨u1, u2, rfl, r1, r2⟩ := vals2 r
    cases (show u2 = Value.type T from r2)
    obtain ⟨as, rd⟩ := Dp.reads I d v u1 (b.dp gh) r1
    exact hf rd fun tk _ => ⟨.bl (f d), H, I.tok tk, rfl, q⟩
  refine pe_imp (pe_callB hc hg hm hv (pa_cons ha (pa_cons (pe_bltn (v := .ty T) hgT hmT hvT rfl hn hd) pa_nil hs2) hs) (by decide) (by decide) hs hpl) fun σ H Q ⟨Γ, G, ρ, d, R, ef, q⟩ => ?_
  unfold f1 at ef
  cases e1 : F ρ with
  | none => rw [e1] at ef; cases ef
  | some dx =>
    rw [e1] at ef; cases ef
    exact ⟨Γ, G, ρ, dx, R, e1, fun v G1 H1 s1 bv => ⟨G1, v, dx, s1.gh, rfl, bv, q _ G1 H1 s1 (.bl _)⟩⟩
end
end Dat
open PySem PySem.Spec PyProof.Rows L2
namespace Dat

/-! ### what is walked -/
structure ItD (K : PySem.W.Frag) (J : It) (ds : List PyData) (G : Hp) : Prop where
  go : ∀ i G1 H1, Same G G1 → Same G1 H1 → i < ds.length → J.go i H1
  yl : ∀ i G1 H1 x H2, Same G G1 → Same G1 H1 → i < ds.length → J.yld i H1 x H2 → ∃ G2 d, Stp G1 H1 G2 H2 ∧ ds[i]? = some d ∧ Dp K G2 x d
  st : ∀ G1 H1, Same G G1 → Same G1 H1 → J.stop ds.length H1
def RI (K : PySem.W.Frag) (O : Os) (Fs : Fl) : TI := fun σ H R => ∃ Γ G ρ ds, Rep K Γ G H O σ ρ ∧ Fs ρ = some ds ∧ ∀ J G' H', Stp G H G' H' → ItD K J ds G' → ds.length ≤ sizeLine → R J H'
section
variable {X : Cx} {e tg : Expr} {pos : Pos} {O : Os} {F : Fd} {L : Fl}
theorem pi_imp {t t' : TI} (h : PI X tg e t) (w : ∀ σ H R, t' σ H R → t σ H R) : PI X tg e t' := ⟨fun pins s σ H R I q => h.run pins s σ H R I (w _ _ _ q)⟩
/-- a value's size, known of the heap -/
def SzOk (K : PySem.W.Frag) (v : V) (H : Hp) : Prop := ∀ a xs, v = .ref a → SqL K H a xs ∨ SqT K H a xs → xs.length ≤ sizeLine
def tSz (K : PySem.W.Frag) (t : TE) : TE := fun σ H Q => t σ H fun v H' => SzOk K v H' → Q v H'
theorem pe_sz {t : TE} (h : PE X e t) : PE X e (tSz X.K t) := ⟨fun pins s σ H Q I q => thn (h.run pins s σ H _ I q) fun u s1 ⟨v, H1, I1, r, k⟩ => ⟨v, H1, I1, r, k fun a xs ev hq => by
  rcases hq with hq | hq
  · obtain ⟨_, _, _, z⟩ := I1.list hq; exact z
  · obtain ⟨_, _, _, z⟩ := I1.tuple hq; exact z⟩⟩
/-- the items of a list or a tuple -/
def seqF (F : Fd) : Fl := fun ρ => (F ρ).bind fun d => match d with | .list xs => some xs | _ => none
def seqT (F : Fd) : Fl := fun ρ => (F ρ).bind fun d => match d with | .tuple xs => some xs | _ => none
theorem seqF_some {ρ : Dv} {ds : List PyData} (h : seqF F ρ = some ds) : F ρ = some (.list ds) := by
  unfold seqF at h
  cases e1 : F ρ with
  | none => rw [e1] at h; cases h
  | some d => rw [e1] at h; cases d <;> first | (cases h; rfl) | (cases h; done)
theorem seqT_some {ρ : Dv} {ds : List PyData} (h : seqT F ρ = some ds) : F ρ = some (.tuple ds) := by
  unfold seqT at h
  cases e1 : F ρ with
  | none => rw [e1] at h; cases h
  | some d => rw [e1] at h; cases d <;> first | (cases h; rfl) | (cases h; done)
theorem itd_list {K : PySem.W.Frag} {a : Addr} {xs : List V} {ds : List PyData} {G : Hp} (hq : SqL K G a xs) (da : DpAll K G xs ds) : ItD K (Itl K a) ds G := by
  refine ⟨fun i G1 H1 s1 s2 hi => ?_, fun i G1 H1 x H2 s1 s2 hi ⟨eh, y⟩ => ?_, fun G1 H1 s1 s2 => ⟨xs, s2.seq (s1.seq hq), by rw [da.length]; exact Nat.le_refl _⟩⟩
  · have hl : i < xs.length := by rw [da.length]; exact hi
    exact ⟨xs, xs[i], s2.seq (s1.seq hq), List.getElem?_eq_getElem hl⟩
  · subst eh
    obtain ⟨d, hd, hv⟩ := da.getV (y xs (s2.seq (s1.seq hq)))
    exact ⟨G1, d, Stp.refl s2, hd, dp_mono s1 _ _ hv⟩
theorem itd_tup {K : PySem.W.Frag} {a : Addr} {xs : List V} {ds : List PyData} {G : Hp} (hq : SqT K G a xs) (da : DpAll K G xs ds) : ItD K (Itt K a) ds G := by
  refine ⟨fun i G1 H1 s1 s2 hi => ?_, fun i G1 H1 x H2 s1 s2 hi ⟨eh, y⟩ => ?_, fun G1 H1 s1 s2 => ⟨xs, seqT_same s2 (seqT_same s1 hq), by rw [da.length]; exact Nat.le_refl _⟩⟩
  · have hl : i < xs.length := by rw [da.length]; exact hi
    exact ⟨xs, xs[i], seqT_same s2 (seqT_same s1 hq), List.getElem?_eq_getElem hl⟩
  · subst eh
    obtain ⟨d, hd, hv⟩ := da.getV (y xs (seqT_same s2 (seqT_same s1 hq)))
    exact ⟨G1, d, Stp.refl s2, hd, dp_mono s1 _ _ hv⟩
theorem i_list (h : PE X e (RD X.K O F)) : PI X tg e (RI X.K O (seqF F)) := pi_imp (pi_list (pe_sz h)) fun σ H R' ⟨Γ, G, ρ, ds, R, ef, q⟩ => by
  refine ⟨Γ, G, ρ, _, R, seqF_some ef, fun v G1 H1 s1 dv sz => ?_⟩
  cases dv with
  | lst hq da => exact ⟨_, rfl, ⟨_, s1.gh.seq hq⟩, q _ G1 H1 s1 (itd_list hq da) (by rw [← da.length]; exact sz _ _ rfl (.inl (s1.gh.seq hq)))⟩
theorem i_tup (h : PE X e (RD X.K O F)) : PI X tg e (RI X.K O (seqT F)) := pi_imp (pi_tup (pe_sz h)) fun σ H R' ⟨Γ, G, ρ, ds, R, ef, q⟩ => by
  refine ⟨Γ, G, ρ, _, R, seqT_some ef, fun v G1 H1 s1 dv sz => ?_⟩
  cases dv with
  | tup hq da => exact ⟨_, rfl, ⟨_, seqT_same s1.gh hq⟩, q _ G1 H1 s1 (itd_tup hq da) (by rw [← da.length]; exact sz _ _ rfl (.inr (seqT_same s1.gh hq)))⟩
/-- lo, lo + 1, .. (n of them) -/
def upFrom (lo : Int) (n : Nat) : List PyData := (List.range n).map fun k => .int (lo + (k : Nat))
theorem upFrom_length (lo : Int) (n : Nat) : (upFrom lo n).length = n := by simp [upFrom]
theorem upFrom_get {lo : Int} {n i : Nat} (h : i < n) : (upFrom lo n)[i]? = some (.int (lo + i)) := by simp [upFrom, h]
theorem itd_range {K : PySem.W.Frag} {lo : Int} {n : Nat} {G : Hp} : ItD K (Itr lo n) (upFrom lo n) G := by
  refine ⟨fun i G1 H1 s1 s2 hi => by rw [upFrom_length] at hi; exact hi, fun i G1 H1 x H2 s1 s2 hi ⟨eh, y⟩ => ?_, fun G1 H1 s1 s2 => by rw [upFrom_length]; exact Nat.le_refl _⟩
  subst eh y
  rw [upFrom_length] at hi
  exact ⟨G1, _, Stp.refl s2, upFrom_get hi, .int _⟩
def dRange : List PyData → Option (List PyData)
  | [.int j] => if j ≤ 16777216 ∧ -16777216 ≤ j then some (upFrom 0 j.toNat) else none
  | [.int i, .int j] => if j ≤ 16777216 ∧ -16777216 ≤ i ∧ i ≤ 16777216 ∧ -16777216 ≤ j ∧ j - i ≤ 16777216 then some (upFrom i (j - i).toNat) else none
  | _ => none
def exN (n : Nat) (L : Fl) : Fl := fun ρ => (L ρ).bind fun ds => if ds.length = n then some ds else none
theorem i_range1 {a : Expr} {p : Pos} (hg : Gl X "range") (hm : X.mg "range" = none) (ha : PA X [a] (RAb X.K O L)) (hs : starEach [a] X.env = [(false, eval a X.env)] := by rfl) : PI X tg (.Call (.Name "range" p) [a] [] pos) (RI X.K O (fL dRange (exN 1 L))) :=
  pi_imp (pi_range1 hg hm ha hs) fun σ H R' ⟨Γ, G, ρ, ds, R, ef, q⟩ => by
    obtain ⟨as, e1, e2⟩ := fL_some ef
    unfold exN at e1
    cases e3 : L ρ with
    | none => rw [e3] at e1; cases e1
    | some bs =>
      rw [e3] at e1
      have e1' : (if bs.length = 1 then some bs else none) = some as := e1
      split at e1'
      · rename_i h1
        cases e1'
        refine ⟨Γ, G, ρ, as, R, e3, fun vs G1 H1 s1 b => ?_⟩
        unfold dRange at e2
        split at e2
        · split at e2
          · rename_i hj
            cases e2
            obtain ⟨v, rfl, bv⟩ := b.one
            exact ⟨_, by rw [bv.int], by omega, by omega, q _ G1 H1 s1 itd_range (by rw [upFrom_length, line_eq]; omega)⟩
          · cases e2
        · cases h1
        · cases e2
      · cases e1'
theorem i_range2 {a b : Expr} {p : Pos} (hg : Gl X "range") (hm : X.mg "range" = none) (ha : PA X [a, b] (RAb X.K O L)) (hs : starEach [a, b] X.env = [(false, eval a X.env), (false, eval b X.env)] := by rfl) (hs2 : starEach [b] X.env = [(false, eval b X.env)] := by rfl) :
    PI X tg (.Call (.Name "range" p) [a, b] [] pos) (RI X.K O (fL dRange (exN 2 L))) :=
  pi_imp (pi_range2 hg hm ha hs hs2) fun σ H R' ⟨Γ, G, ρ, ds, R, ef, q⟩ => by
    obtain ⟨as, e1, e2⟩ := fL_some ef
    unfold exN at e1
    cases e3 : L ρ with
    | none => rw [e3] at e1; cases e1
    | some bs =>
      rw [e3] at e1
      have e1' : (if bs.length = 2 then some bs else none) = some as := e1
      split at e1'
      · rename_i h1
        cases e1'
        refine ⟨Γ, G, ρ, as, R, e3, fun vs G1 H1 s1 b => ?_⟩
        unfold dRange at e2
        split at e2
        · cases h1
        · split at e2
          · rename_i hj
            cases e2
            obtain ⟨v, v', rfl, b1, b2⟩ := b.two
            exact ⟨_, _, by rw [b1.int, b2.int], by omega, q _ G1 H1 s1 itd_range (by rw [upFrom_length, line_eq]; omega)⟩
          · cases e2
        · cases e2
      · cases e1'
/-- (0, x0), (1, x1), .. -/
def numbered (ds : List PyData) : List PyData := ds.mapIdx fun i d => .tuple [.int (i : Nat), d]
theorem itd_enum {K : PySem.W.Frag} {a : Addr} {xs : List V} {ds : List PyData} {G : Hp} (hq : SqL K G a xs) (da : DpAll K G xs ds) : ItD K (Ite K a) (numbered ds) G := by
  have hn : (numbered ds).length = ds.length := by simp [numbered]
  refine ⟨fun i G1 H1 s1 s2 hi => ?_, fun i G1 H1 x H2 s1 s2 hi ⟨T, z, ex, hT, eH, y⟩ => ?_, fun G1 H1 s1 s2 => ⟨xs, s2.seq (s1.seq hq), by rw [hn, da.length]; exact Nat.le_refl _⟩⟩
  · have hl : i < xs.length := by rw [da.length]; omega
    exact ⟨xs, xs[i], s2.seq (s1.seq hq), List.getElem?_eq_getElem hl⟩
  · subst ex eH
    obtain ⟨d, hd, hv⟩ := da.getV (y xs (s2.seq (s1.seq hq)))
    have sg := Stp.newF (p := T) (o := .tup [.int (i : Nat), z]) s2 hT
    refine ⟨_, .tuple [.int (i : Nat), d], sg, by simp [numbered, hd], .tup (SqT.of upd_same) (.cons (.int _) (.cons (dp_mono (s1.trans sg.gg) _ _ hv) .nil))⟩
def enF (F : Fd) : Fl := fun ρ => (seqF F ρ).map numbered
theorem i_enum {a : Expr} {p tpos : Pos} {elts : List Expr} {kk : Nat} (hg : Gl X "enumerate") (hm : X.mg "enumerate" = none) (h : PE X a (RD X.K O F)) (hs : starEach [a] X.env = [(false, eval a X.env)] := by rfl) (hs1 : starEach [a] X.env = (false, eval a X.env) :: starEach [] X.env := by rfl) :
    PI X (.Tuple elts kk tpos) (.Call (.Name "enumerate" p) [a] [] pos) (RI X.K O (enF F)) :=
  pi_imp (pi_enum hg hm (pa_cons (pe_sz h) pa_nil hs1) hs) fun σ H R' ⟨Γ, G, ρ, ds, R, ef, q⟩ => by
    unfold enF at ef
    cases e1 : seqF F ρ with
    | none => rw [e1] at ef; cases ef
    | some xs =>
      rw [e1] at ef; cases ef
      refine ⟨Γ, G, ρ, _, R, seqF_some e1, fun v G1 H1 s1 dv sz => ?_⟩
      cases dv with
      | lst hq da => exact ⟨_, _, rfl, s1.gh.seq hq, q _ G1 H1 s1 (itd_enum hq da) (by show (numbered xs).length ≤ _; simp only [numbered, List.length_mapIdx]; rw [← da.length]; exact sz _ _ rfl (.inl (s1.gh.seq hq)))⟩

/-! ### targets -/
abbrev Tgt := PyData → Dv → Option Dv
def TgD (K : PySem.W.Frag) (O : Os) (g : TG) (tgt : Tgt) (vs : List Nat) : Prop := ∀ (Γ : Gh) (G H : Hp) (σ : L2.St) (ρ ρ' : Dv) (v : V) (d : PyData) (Q : L2.St → Hp → Prop), Rep K Γ G H O σ ρ → Dp K G v d → tgt d ρ = some ρ' →
  (∀ σ', Rep K Γ G H O σ' ρ' → (∀ ws : List Nat, (∀ x, x ∈ vs → x ∈ ws) → wipe σ' ws = wipe σ ws) → Q σ' H) → g v σ H Q
theorem wipe_get (σ : L2.St) (k : Nat) : ∀ ws : List Nat, (wipe σ ws)[k]? = if k ∈ ws then (if k < σ.length then some none else none) else σ[k]?
  | [] => by simp [wipe]
  | w :: ws => by
    have ih := wipe_get σ k ws
    unfold wipe
    by_cases h : w = k
    · subst h
      by_cases hl : w < σ.length
      · rw [List.getElem?_set_self (by rw [wipe_length]; exact hl)]; simp [hl]
      · rw [List.getElem?_eq_none (by rw [List.length_set, wipe_length]; omega)]; simp [hl]
    · rw [List.getElem?_set_ne h, ih]
      have : k ∈ w :: ws ↔ k ∈ ws := by simp [List.mem_cons, Ne.symm h]
      by_cases hk : k ∈ ws
      · rw [if_pos hk, if_pos (this.mpr hk)]
      · rw [if_neg hk, if_neg (fun z => hk (this.mp z))]
theorem wipe_set {σ : L2.St} {i : Nat} {x : Option V} {ws : List Nat} (h : i ∈ ws) : wipe (σ.set i x) ws = wipe σ ws := by
  apply List.ext_getElem?
  intro k
  rw [wipe_get, wipe_get, List.length_set]
  by_cases hk : k ∈ ws
  · rw [if_pos hk, if_pos hk]
  · rw [if_neg hk, if_neg hk, List.getElem?_set_ne (fun z => hk (by rw [← z]; exact h))]
theorem wipe_wipe (σ : L2.St) (ws : List Nat) : wipe (wipe σ ws) ws = wipe σ ws := by
  apply List.ext_getElem?
  intro k
  rw [wipe_get, wipe_get, wipe_length]
  by_cases hk : k ∈ ws
  · rw [if_pos hk, if_pos hk]
  · rw [if_neg hk]
/-- a frozen value is stored in a slot that is not the def's own -/
theorem Rep.store {K : PySem.W.Frag} {Γ : Gh} {G H : Hp} {O : Os} {σ : L2.St} {ρ : Dv} {i : Nat} {v : V} {d : PyData} (R : Rep K Γ G H O σ ρ) (hi : nin i O = true) (dv : Dp K G v d) : Rep K Γ G H O (σ.set i (some v)) (ρ.set i (some d)) := by
  have ne : ∀ {j : Nat} {kd : Kd}, (j, kd) ∈ O → i ≠ j := fun {j kd} m z => nin_of hi (kd := kd) (by rw [z]; exact m)
  refine ⟨R.base, by rw [List.length_set, List.length_set]; exact R.len, fun j d' hj e => ?_, ?_, fun j kd w m => ?_, R.uq⟩
  · by_cases h : i = j
    · subst h
      have hl : i < ρ.length := by
        have := (List.getElem?_eq_some_iff.mp e).1
        rwa [List.length_set] at this
      rw [List.getElem?_set_self hl] at e
      cases e
      exact ⟨v, List.getElem?_set_self (by rw [R.len]; exact hl), dv⟩
    · rw [List.getElem?_set_ne h] at e
      obtain ⟨v', h1, h2⟩ := R.fz j d' hj e
      exact ⟨v', by rw [List.getElem?_set_ne h]; exact h1, h2⟩
  · obtain ⟨fp, h1, h2⟩ := R.ow
    refine ⟨fp, fun j kd d' hj e => ?_, h2⟩
    rw [List.getElem?_set_ne (ne hj)] at e
    obtain ⟨v', e1, r⟩ := h1 j kd d' hj e
    exact ⟨v', by rw [List.getElem?_set_ne (ne hj)]; exact e1, r⟩
  · obtain ⟨p1, p2, p3⟩ := R.par j kd w m
    exact ⟨p1, p2, by rw [List.getElem?_set_ne (ne p1)]; exact p3⟩
def tgN (i : Nat) : Tgt := fun d ρ => some (ρ.set i (some d))
theorem tg_n {K : PySem.W.Frag} {i : Nat} (hi : nin i O = true) : TgD K O (gName i) (tgN i) [i] := fun Γ G H σ ρ ρ' v d Q R dv e q => by
  cases e
  exact q _ (R.store hi dv) fun ws hw => wipe_set (hw i (by simp))
def tgP (i j : Nat) : Tgt := fun d ρ => match d with | .tuple [a, b] => some ((ρ.set i (some a)).set j (some b)) | _ => none
theorem tg_p {K : PySem.W.Frag} {i j : Nat} (hi : nin i O = true) (hj : nin j O = true) : TgD K O (gTup K 2 (gCons (gName i) (gCons (gName j) gNil))) (tgP i j) [i, j] := fun Γ G H σ ρ ρ' v d Q R dv e q => by
  have hd : ∃ a b, d = .tuple [a, b] ∧ (ρ.set i (some a)).set j (some b) = ρ' := by
    unfold tgP at e
    split at e
    · cases e; exact ⟨_, _, rfl, rfl⟩
    · cases e
  obtain ⟨a, b, rfl, rfl⟩ := hd
  cases dv with
  | tup hq da =>
    cases da with
    | cons d1 t =>
      cases t with
      | cons d2 t =>
        cases t
        exact ⟨_, _, rfl, seqT_same R.gh hq, rfl, _, _, rfl, _, _, rfl, rfl, q _ ((R.store hi d1).store hj d2) fun ws hw => by rw [wipe_set (hw j (by simp)), wipe_set (hw i (by simp))]⟩
def tgT (i j k : Nat) : Tgt := fun d ρ => match d with | .tuple [a, b, c] => some (((ρ.set i (some a)).set j (some b)).set k (some c)) | _ => none

/-! ### comprehensions -/
def wipeD (ρ : Dv) : List Nat → Dv
  | [] => ρ
  | v :: vs => (wipeD ρ vs).set v none
theorem wipeD_length (ρ : Dv) : ∀ vs : List Nat, (wipeD ρ vs).length = ρ.length
  | [] => rfl
  | v :: vs => by unfold wipeD; rw [List.length_set, wipeD_length ρ vs]
theorem wipeD_get (σ : Dv) (k : Nat) : ∀ ws : List Nat, (wipeD σ ws)[k]? = if k ∈ ws then (if k < σ.length then some none else none) else σ[k]?
  | [] => by simp [wipeD]
  | w :: ws => by
    have ih := wipeD_get σ k ws
    unfold wipeD
    by_cases h : w = k
    · subst h
      by_cases hl : w < σ.length
      · rw [List.getElem?_set_self (by rw [wipeD_length]; exact hl)]; simp [hl]
      · rw [List.getElem?_eq_none (by rw [List.length_set, wipeD_length]; omega)]; simp [hl]
    · rw [List.getElem?_set_ne h, ih]
      have : k ∈ w :: ws ↔ k ∈ ws := by simp [List.mem_cons, Ne.symm h]
      by_cases hk : k ∈ ws
      · rw [if_pos hk, if_pos (this.mpr hk)]
      · rw [if_neg hk, if_neg (fun z => hk (this.mp z))]
theorem wipeD_some {ρ : Dv} {k : Nat} {ws : List Nat} {d : PyData} (h : (wipeD ρ ws)[k]? = some (some d)) : k ∉ ws ∧ ρ[k]? = some (some d) := by
  rw [wipeD_get] at h
  by_cases hk : k ∈ ws
  · rw [if_pos hk] at h
    split at h
    · cases h
    · cases h
  · rw [if_neg hk] at h; exact ⟨hk, h⟩
theorem Rep.wiped {K : PySem.W.Frag} {Γ : Gh} {G H : Hp} {σ : L2.St} {ρ : Dv} (R : Rep K Γ G H O σ ρ) (ws : List Nat) (hw : ws.all (fun i => nin i O) = true) : Rep K Γ G H O (wipe σ ws) (wipeD ρ ws) := by
  have ne : ∀ {k : Nat}, k ∉ ws → (wipe σ ws)[k]? = σ[k]? := fun {k} hk => by rw [wipe_get, if_neg hk]
  refine ⟨R.base, by rw [wipe_length, wipeD_length]; exact R.len, fun j d hj e => ?_, ?_, fun j kd w m => ?_, R.uq⟩
  · obtain ⟨h1, h2⟩ := wipeD_some e
    obtain ⟨v, h3, h4⟩ := R.fz j d hj h2
    exact ⟨v, by rw [ne h1]; exact h3, h4⟩
  · obtain ⟨fp, h1, h2⟩ := R.ow
    refine ⟨fp, fun j kd d hj e => ?_, h2⟩
    obtain ⟨q1, q2⟩ := wipeD_some e
    obtain ⟨v, e1, r⟩ := h1 j kd d hj q2
    exact ⟨v, by rw [ne q1]; exact e1, r⟩
  · obtain ⟨p1, p2, p3⟩ := R.par j kd w m
    refine ⟨p1, p2, ?_⟩
    rw [ne fun hj => nin_of (List.all_eq_true.mp hw j hj) p1]
    exact p3
def lcGo (tgt : Tgt) (C : Dv → Option Bool) (E : Fd) (ρ : Dv) : List PyData → Option (List PyData)
  | [] => some []
  | d :: ds => (tgt d ρ).bind fun ρ1 => match C ρ1 with
    | some true => (E ρ1).bind fun y => (lcGo tgt C E ρ ds).map (y :: ·)
    | some false => lcGo tgt C E ρ ds
    | none => none
def lcF (Fs : Fl) (vs : List Nat) (tgt : Tgt) (C : Dv → Option Bool) (E : Fd) : Fl := fun ρ => (Fs ρ).bind fun ds => lcGo tgt C E (wipeD ρ vs) ds
def yesT : Dv → Option Bool := fun _ => some true
theorem lc_imp {K : PySem.W.Frag} {Fs : Fl} {vs us : List Nat} {g : TG} {tgt : Tgt} {C : Dv → Option Bool} {E : Fd} (htg : TgD K O g tgt us) (hus : ∀ x, x ∈ us → x ∈ vs) (hvs : vs.all (fun i => nin i O) = true) {σ : L2.St} {H : Hp} {Q : VK} (h : RO K O (lcF Fs vs tgt C E) σ H Q) : tLc (RI K O Fs) g (RT K O C) (RD K O E) vs σ H Q := by
  obtain ⟨Γ, G, ρ, ys, R, ef, q⟩ := h
  unfold lcF at ef
  cases e1 : Fs ρ with
  | none => rw [e1] at ef; cases ef
  | some ds =>
    rw [e1] at ef
    have ef : lcGo tgt C E (wipeD ρ vs) ds = some ys := ef
    refine ⟨Γ, G, ρ, ds, R, e1, fun J G1 H1 s1 it len D hD => ?_⟩
    have gD : G1 D = none := s1.gh.free hD
    refine ⟨fun i m H2 => m = ds.length - i ∧ i ≤ ds.length ∧ ∃ G2 acc done rest, Stp G1 H1 G2 H2 ∧ G2 D = none ∧ H2 D = some (.lst acc) ∧ acc.length ≤ i ∧ DpAll K G2 acc done ∧ lcGo tgt C E (wipeD ρ vs) (ds.drop i) = some rest ∧ ys = done ++ rest,
      ⟨ds.length, by simp, Nat.zero_le _, G1, [], [], ys, Stp.new s1.gh hD, gD, upd_same, Nat.le_refl _, .nil, ef, rfl⟩, ?_⟩
    rintro i m H2 ⟨rfl, hi, G2, acc, done, rest, s2, g2, h2, hl, da, el, ey⟩
    by_cases hlt : i < ds.length
    · refine .inr ⟨it.go i G2 H2 s2.gg s2.gh hlt, fun H' => ds.length - (i + 1) = ds.length - (i + 1) ∧ i + 1 ≤ ds.length ∧ ∃ G2 acc done rest, Stp G1 H1 G2 H' ∧ G2 D = none ∧ H' D = some (.lst acc) ∧ acc.length ≤ i + 1 ∧ DpAll K G2 acc done ∧ lcGo tgt C E (wipeD ρ vs) (ds.drop (i + 1)) = some rest ∧ ys = done ++ rest,
        fun H' w => ⟨_, by omega, w⟩, fun x H3 y => ?_⟩
      obtain ⟨G3, d, s3, hd, dv⟩ := it.yl i G2 H2 x H3 s2.gg s2.gh hlt y
      have ed : ds.drop i = d :: ds.drop (i + 1) := by
        rw [List.drop_eq_getElem_cons hlt]
        congr 1
        rw [List.getElem?_eq_getElem hlt] at hd
        exact Option.some.inj hd
      rw [ed] at el
      simp only [lcGo] at el
      cases e2 : tgt d (wipeD ρ vs) with
      | none => rw [e2] at el; cases el
      | some ρ1 =>
        rw [e2, Option.bind_some] at el
        have hH2 : H2 D ≠ none := by rw [h2]; exact fun z => nomatch z
        have g3 : G3 D = none := s3.sep D hH2 g2
        have h3 : H3 D = some (.lst acc) := s3.hh _ _ h2
        have R3 := (((R.stp s1).stp s2).stp s3).wiped vs hvs
        refine htg Γ G3 H3 _ _ _ x d _ R3 dv e2 fun σ' R' hw => ⟨(hw vs hus).trans (wipe_wipe σ vs), ?_⟩
        cases e3 : C ρ1 with
        | none => rw [e3] at el; cases el
        | some b =>
          rw [e3] at el
          refine ⟨Γ, G3, ρ1, b, R', e3, fun G4 H4 s4 => ?_⟩
          have g4 : G4 D = none := s4.sep D (by rw [h3]; exact fun z => nomatch z) g3
          have h4 : H4 D = some (.lst acc) := s4.hh _ _ h3
          have s14 := (s2.trans s3).trans s4
          cases b with
          | false =>
            exact iteF ⟨rfl, hlt, G4, acc, done, rest, s14, g4, h4, by omega, dpAll_mono (s3.gg.trans s4.gg) _ _ da, el, ey⟩
          | true =>
            have el : ((E ρ1).bind fun y => (lcGo tgt C E (wipeD ρ vs) (ds.drop (i + 1))).map (y :: ·)) = some rest := el
            cases e5 : E ρ1 with
            | none => rw [e5] at el; cases el
            | some y1 =>
              rw [e5, Option.bind_some] at el
              cases e6 : lcGo tgt C E (wipeD ρ vs) (ds.drop (i + 1)) with
              | none => rw [e6] at el; cases el
              | some rest' =>
                rw [e6] at el; cases el
                refine iteT ⟨Γ, G4, ρ1, y1, R'.stp s4, e5, fun v G5 H5 s5 dv5 => ?_⟩
                have g5 : G5 D = none := s5.sep D (by rw [h4]; exact fun z => nomatch z) g4
                have h5 : H5 D = some (.lst acc) := s5.hh _ _ h4
                have s15 := s14.trans s5
                refine ⟨acc, h5, by omega, rfl, hlt, G5, acc ++ [v], done ++ [y1], rest', ?_, g5, upd_same, by rw [List.length_append, List.length_singleton]; omega, (dpAll_mono ((s3.gg.trans s4.gg).trans s5.gg) _ _ da).append (.cons dv5 .nil), rfl, by rw [ey, List.append_assoc]; rfl⟩
                refine ⟨fun a u z => ?_, s15.gg, fun a u z => ?_, s15.sep⟩
                · rw [upd_ne (ne_of_none z hD)]; exact s15.hh a u z
                · rw [upd_ne (ne_of_none z g5)]; exact s15.gh a u z
    · have hi' : i = ds.length := by omega
      refine .inl ⟨by rw [hi']; exact it.st G2 H2 s2.gg s2.gh, ?_⟩
      rw [hi', List.drop_length] at el
      cases el
      rw [List.append_nil] at ey
      subst ey
      exact q D acc G2 H2 (s1.trans s2) (s1.hh.free hD) g2 h2 da
theorem o_lc {elt iter : Expr} {ifs : List Expr} {scope : Scope} {own : List (Str × Nat)} {Fs : Fl} {us : List Nat} {g : TG} {tgt : Tgt} {C : Dv → Option Bool} {E : Fd} (hc : X.calm = true) (hN : X.N.Nodup) (hi : PI X tg iter (RI X.K O Fs)) (ok : BlkOk X.N X.env.scope scope own)
    (htg : TgD X.K O g tgt us) (hus : ∀ x, x ∈ us → x ∈ own.map (·.2)) (hvs : (own.map (·.2)).all (fun i => nin i O) = true)
    (hg : ∀ (s : Shared) (H : Hp) (C : Addr) (cl : List (Str × Addr)) (fp : List Addr), PG (X.blk s H scope (compEnvC scope cl C X.env) fp) tg g) (ht : ∀ (s : Shared) (H : Hp) (C' : Addr) (cl : List (Str × Addr)) (fp : List Addr), PTs (X.blk s H scope (compEnvC scope cl C' X.env) fp) ifs (RT X.K O C))
    (he : ∀ (s : Shared) (H : Hp) (C : Addr) (cl : List (Str × Addr)) (fp : List Addr), PE (X.blk s H scope (compEnvC scope cl C X.env) fp) elt (RD X.K O E)) (hs : ∀ x, foldedSetIterable iter X.env x = pure x := by intro _; rfl) :
    PE X (.ListComp elt [⟨tg, iter, ifs, 0⟩] scope pos) (RO X.K O (lcF Fs (own.map (·.2)) tgt C E)) :=
  pe_imp (pe_lc hc hN hi ok hg ht he hs) fun σ H Q h => lc_imp htg hus hvs h
theorem ts_nil : PTs X [] (RT X.K O yesT) := ⟨fun pins s σ H Q I ⟨Γ, G, ρ, b, R, e, q⟩ => by cases e; exact pts_nil.run pins s σ H Q I (q G H (Stp.refl R.gh))⟩
theorem ts_one {c : Expr} {C : Dv → Option Bool} (h : PT X c (RT X.K O C)) : PTs X [c] (RT X.K O C) := pts_one h
end
end Dat
open PySem PySem.Spec PyProof.Rows L2
namespace Dat

/-! ### statements -/
inductive Res where
  | nx (ρ : Dv) | ret (d : PyData) (ρ : Dv) | brk (ρ : Dv) | ct (ρ : Dv)
  /-- an exception of the class at c leaves -/
  | exc (c : Addr) (ρ : Dv)
abbrev Bs := Dv → Option Res
def Fin' (K : PySem.W.Frag) (W : XK) (Γ : Gh) (O OL : Os) (D : Ends) : Res → Prop
  | .nx ρ => ∀ σ G H, Rep K Γ G H O σ ρ → D.nx σ H
  | .ret d ρ => ∀ v σ G H Or, Rep K Γ G H Or σ ρ → Dp K G v d → D.rt v H
  | .brk ρ => ∀ σ G H, Rep K Γ G H OL σ ρ → D.bk σ H
  | .ct ρ => ∀ σ G H, Rep K Γ G H OL σ ρ → D.ct σ H
  | .exc c ρ => ∀ σ G H Or, Rep K Γ G H Or σ ρ → W (.ref c) none H
/-- O: the def's own things ahead of it, O': behind it, OL: where a loop's turn ends; W: what is wanted of an exception -/
def RS (K : PySem.W.Frag) (W : XK) (O O' OL : Os) (B : Bs) : TS := fun D σ H => ∃ Γ G ρ r, Rep K Γ G H O σ ρ ∧ B ρ = some r ∧ Fin' K W Γ O' OL D r
section
variable {W : XK} {X : Cx} {st : Stmt} {rest body : List Stmt} {e a : Expr} {pos pos' : Pos} {O O1 O' OL : Os} {F : Fd} {L : Fl} {B B' : Bs} {C : Dv → Option Bool}
theorem ps_imp {t t' : TS} (h : PS X st t) (w : ∀ D σ H, t' D σ H → t D σ H) : PS X st t' := ⟨fun pins s σ H D I q => h.run pins s σ H D I (w _ _ _ q)⟩
theorem pss_imp {t t' : TS} (h : PSs X rest t) (w : ∀ D σ H, t' D σ H → t D σ H) : PSs X rest t' := ⟨fun pins s σ H D I q => h.run pins s σ H D I (w _ _ _ q)⟩
def nopS : Bs := fun ρ => some (.nx ρ)
def seqS (B B' : Bs) : Bs := fun ρ => match B ρ with | some (.nx ρ') => B' ρ' | r => r
theorem s_nil : PSs X [] (RS X.K W O O OL nopS) := pss_imp pss_nil fun D σ H ⟨Γ, G, ρ, r, R, e, f⟩ => by cases e; exact f σ G H R
theorem s_cons (h : PS X st (RS X.K W O O1 OL B)) (h' : PSs X rest (RS X.K W O1 O' OL B')) : PSs X (st :: rest) (RS X.K W O O' OL (seqS B B')) := pss_imp (pss_cons h h') fun D σ H ⟨Γ, G, ρ, r, R, e, f⟩ => by
  unfold seqS at e
  cases q : B ρ with
  | none => rw [q] at e; cases e
  | some z =>
    rw [q] at e
    refine ⟨Γ, G, ρ, z, R, q, ?_⟩
    cases z with
    | nx ρ' => exact fun σ' G' H' R' => ⟨Γ, G', ρ', r, R', e, f⟩
    | ret d ρ' => cases e; exact f
    | brk ρ' => cases e; exact f
    | ct ρ' => cases e; exact f
    | exc c ρ' => cases e; exact f
theorem s_one (h : PS X st (RS X.K W O O' OL B)) : PSs X [st] (RS X.K W O O' OL B) := pss_one h
theorem s_pass : PS X (.Pass pos) (RS X.K W O O OL nopS) := ps_imp ps_pass fun D σ H ⟨Γ, G, ρ, r, R, e, f⟩ => by cases e; exact f σ G H R
theorem s_doc {x : Str} {j : Nat} : PS X (.Expr (.Constant (.str x) j pos) pos') (RS X.K W O O OL nopS) := ps_imp ps_doc fun D σ H ⟨Γ, G, ρ, r, R, e, f⟩ => by cases e; exact f σ G H R
def brkS : Bs := fun ρ => some (.brk ρ)
def ctS : Bs := fun ρ => some (.ct ρ)
theorem s_break : PS X (.Break pos) (RS X.K W O O' O brkS) := ps_imp ps_break fun D σ H ⟨Γ, G, ρ, r, R, e, f⟩ => by cases e; exact f σ G H R
theorem s_continue : PS X (.Continue pos) (RS X.K W O O' O ctS) := ps_imp ps_continue fun D σ H ⟨Γ, G, ρ, r, R, e, f⟩ => by cases e; exact f σ G H R
/-- an own list is frozen ahead of a statement -/
theorem s_frz (i : Nat) (hl : lsl i O = true) (h : PS X st (RS X.K W (dropO i O) O' OL B)) : PS X st (RS X.K W O O' OL B) := ps_imp h fun D σ H ⟨Γ, G, ρ, r, R, e, f⟩ => by
  obtain ⟨G', _, R'⟩ := R.freeze i hl
  exact ⟨Γ, G', ρ, r, R', e, f⟩
theorem ss_frz (i : Nat) (hl : lsl i O = true) (h : PSs X rest (RS X.K W (dropO i O) O' OL B)) : PSs X rest (RS X.K W O O' OL B) := pss_imp h fun D σ H ⟨Γ, G, ρ, r, R, e, f⟩ => by
  obtain ⟨G', _, R'⟩ := R.freeze i hl
  exact ⟨Γ, G', ρ, r, R', e, f⟩
/-- .. behind a block -/
theorem ss_frzE (i : Nat) (hl : lsl i O1 = true) (h : PSs X rest (RS X.K W O O1 OL B)) (e1 : O' = dropO i O1) : PSs X rest (RS X.K W O O' OL B) := pss_imp h fun D σ H ⟨Γ, G, ρ, r, R, e, f⟩ => by
  subst e1
  refine ⟨Γ, G, ρ, r, R, e, ?_⟩
  cases r with
  | nx ρ' =>
    intro σ' G' H' R'
    obtain ⟨G2, _, R2⟩ := Rep.freeze R' i hl
    exact f σ' G2 H' R2
  | ret d ρ' => exact f
  | brk ρ' => exact f
  | ct ρ' => exact f
  | exc c ρ' => exact f
def ifS (C : Dv → Option Bool) (B B' : Bs) : Bs := fun ρ => match C ρ with | some true => B ρ | some false => B' ρ | none => none
theorem s_if {c : Expr} {x y : List Stmt} (hc : PT X c (RT X.K O C)) (h : PSs X x (RS X.K W O O' OL B)) (h' : PSs X y (RS X.K W O O' OL B')) : PS X (.If c x y pos) (RS X.K W O O' OL (ifS C B B')) := ps_imp (ps_if hc h h') fun D σ H ⟨Γ, G, ρ, r, R, e, f⟩ => by
  unfold ifS at e
  cases q : C ρ with
  | none => rw [q] at e; cases e
  | some k =>
    rw [q] at e
    cases k with
    | true => exact ⟨Γ, G, ρ, true, R, q, fun G' H' s => iteT ⟨Γ, G', ρ, r, R.stp s, e, f⟩⟩
    | false => exact ⟨Γ, G, ρ, false, R, q, fun G' H' s => iteF ⟨Γ, G', ρ, r, R.stp s, e, f⟩⟩
def retS (F : Fd) : Bs := fun ρ => (F ρ).map fun d => .ret d ρ
theorem s_ret (h : PE X e (RD X.K O F)) : PS X (.Return (some e) pos) (RS X.K W O O' OL (retS F)) := ps_imp (ps_ret h) fun D σ H ⟨Γ, G, ρ, r, R, er, f⟩ => by
  unfold retS at er
  cases q : F ρ with
  | none => rw [q] at er; cases er
  | some d => rw [q] at er; cases er; exact ⟨Γ, G, ρ, d, R, q, fun v G' H' s dv => f v σ G' H' O (R.stp s) dv⟩
def retN : Bs := fun ρ => some (.ret .none ρ)
theorem s_retN : PS X (.Return none pos) (RS X.K W O O' OL retN) := ps_imp ps_retN fun D σ H ⟨Γ, G, ρ, r, R, er, f⟩ => by cases er; exact f _ σ G H O R .non
/-- .. of an own list -/
theorem s_retV {j : Str} (i : Nat) (h : PE X (.Name j pos') (tVar i)) (hl : lsl i O = true := by rfl) : PS X (.Return (some (.Name j pos')) pos) (RS X.K W O O' OL (retS (vF i))) := s_frz i hl (s_ret (d_var i h (nin_drop.mpr (.inr rfl))))
def exS (F : Fd) : Bs := fun ρ => (F ρ).map fun _ => .nx ρ
theorem s_expr (h : PE X e (RD X.K O F)) (hs : swapsWith e none pos.line X.env = pure false := by rfl) : PS X (.Expr e pos) (RS X.K W O O OL (exS F)) := ps_imp (ps_expr h hs) fun D σ H ⟨Γ, G, ρ, r, R, er, f⟩ => by
  unfold exS at er
  cases q : F ρ with
  | none => rw [q] at er; cases er
  | some d => rw [q] at er; cases er; exact ⟨Γ, G, ρ, d, R, q, fun v G' H' s dv => f σ G' H' (R.stp s)⟩
/-! ### x = e -/
def setS (i : Nat) (F : Fd) : Bs := fun ρ => (F ρ).map fun d => .nx (ρ.set i (some d))
theorem setS_some {i : Nat} {ρ : Dv} {r : Res} (h : setS i F ρ = some r) : ∃ d, F ρ = some d ∧ r = .nx (ρ.set i (some d)) := by
  unfold setS at h
  cases q : F ρ with
  | none => rw [q] at h; cases h
  | some d => rw [q] at h; cases h; exact ⟨d, rfl, rfl⟩
theorem set_imp {i : Nat} {te : TE} {D : Ends} {σ : L2.St} {H : Hp} (hi : nin i O = true) (w : ∀ Q, RD X.K O F σ H Q → te σ H Q) (h : RS X.K W O O OL (setS i F) D σ H) : tAsg te (gName i) D σ H := by
  obtain ⟨Γ, G, ρ, r, R, er, f⟩ := h
  obtain ⟨d, e1, rfl⟩ := setS_some er
  exact w _ ⟨Γ, G, ρ, d, R, e1, fun v G' H' s dv => f _ G' H' ((R.stp s).store hi dv)⟩
theorem s_set {i : Nat} {x : Str} (hN : X.N.Nodup) (hi : X.N[i]? = some x) (hx : Loc X.env.scope x) (hO : nin i O = true) (he : PE X e (RD X.K O F)) (hs : swapsWith e (some (.Name x pos')) pos.line X.env = pure false := by rfl) (hf : X.fn x = true ∨ X.env.scope.names.lookup x = some .local := by first | exact .inl rfl | exact .inr rfl | assumption) :
    PS X (.Assign [.Name x pos'] e pos) (RS X.K W O O OL (setS i F)) := ps_imp (ps_set hN hi hx he hs hf) fun D σ H h => set_imp hO (fun Q h' => h') h
def setO (i : Nat) (L : Fl) : Bs := setS i (lstF L)
def insK (i : Nat) (kd : Kd) (O : Os) : Os := if nin i O then (i, kd) :: O else O.map fun p => if p.1 == i then (i, kd) else p
theorem mem_insK {i j : Nat} {kd k : Kd} {O : Os} : (j, k) ∈ insK i kd O ↔ (j = i ∧ k = kd) ∨ (j ≠ i ∧ (j, k) ∈ O) := by
  unfold insK
  cases h : nin i O with
  | true =>
    rw [if_pos rfl, List.mem_cons, Prod.mk.injEq]
    constructor
    · rintro (⟨rfl, rfl⟩ | m)
      · exact .inl ⟨rfl, rfl⟩
      · exact .inr ⟨fun z => nin_of h (by rw [← z]; exact m), m⟩
    · rintro (⟨rfl, rfl⟩ | ⟨_, m⟩)
      · exact .inl ⟨rfl, rfl⟩
      · exact .inr m
  | false =>
    rw [if_neg Bool.false_ne_true, List.mem_map]
    constructor
    · rintro ⟨⟨a, b⟩, m, e⟩
      by_cases q : a = i
      · subst q
        simp at e
        exact .inl ⟨e.1.symm, e.2.symm⟩
      · simp [q] at e
        obtain ⟨rfl, rfl⟩ := e
        exact .inr ⟨q, m⟩
    · rintro (⟨rfl, rfl⟩ | ⟨n, m⟩)
      · rcases own_or (i := j) (O := O) with q | ⟨kd', m⟩
        · rw [h] at q; cases q
        · exact ⟨(j, kd'), m, by simp⟩
      · exact ⟨(j, k), m, by simp [n]⟩
theorem nin_insK {i j : Nat} {kd : Kd} {O : Os} (h : nin j (insK i kd O) = true) : j ≠ i ∧ nin j O = true := by
  have hne : j ≠ i := fun z => nin_of h (kd := kd) (mem_insK.mpr (.inl ⟨z, rfl⟩))
  refine ⟨hne, ?_⟩
  rcases own_or (i := j) (O := O) with q | ⟨k, m⟩
  · exact q
  · exact absurd (mem_insK.mpr (.inr ⟨hne, m⟩)) (nin_of h)
open Classical in
noncomputable def fpN (O : Os) (ρ : Dv) (fq : Nat → List Addr) (i : Nat) (fp : List Addr) : Nat → List Addr := fun j => if j = i then fp else if ∃ k d', (j, k) ∈ O ∧ ρ[j]? = some (some d') then fq j else []
theorem fpN_self {O : Os} {ρ : Dv} {fq : Nat → List Addr} {i : Nat} {fp : List Addr} : fpN O ρ fq i fp i = fp := by unfold fpN; rw [if_pos rfl]
theorem fpN_live {O : Os} {ρ : Dv} {fq : Nat → List Addr} {i j : Nat} {fp : List Addr} {k : Kd} {d : PyData} (hne : j ≠ i) (m : (j, k) ∈ O) (e : ρ[j]? = some (some d)) : fpN O ρ fq i fp j = fq j := by unfold fpN; rw [if_neg hne, if_pos ⟨k, d, m, e⟩]
theorem fpN_mem {O : Os} {ρ : Dv} {fq : Nat → List Addr} {i j : Nat} {fp : List Addr} {a : Addr} (hne : j ≠ i) (h : a ∈ fpN O ρ fq i fp j) : a ∈ fq j ∧ ∃ k d', (j, k) ∈ O ∧ ρ[j]? = some (some d') := by
  unfold fpN at h
  rw [if_neg hne] at h
  by_cases z : ∃ k d', (j, k) ∈ O ∧ ρ[j]? = some (some d')
  · rw [if_pos z] at h; exact ⟨h, z⟩
  · rw [if_neg z] at h; cases h
/-- a slot gets a new thing of the def's own -/
theorem Rep.storeK {K : PySem.W.Frag} {Γ : Gh} {G H G' H' : Hp} {σ : L2.St} {ρ : Dv} {i : Nat} {kd : Kd} {v : V} {fp : List Addr} {d : PyData} (R : Rep K Γ G H O σ ρ) (s : Stp G H G' H') (hl : lsl i O = true) (o : Own K G' H' kd v fp d) (n : ∀ a, a ∈ fp → H a = none ∧ G' a = none) :
    Rep K Γ G' H' (insK i kd O) (σ.set i (some v)) (ρ.set i (some d)) := by
  have R' := R.stp s
  refine ⟨R'.base, by rw [List.length_set, List.length_set]; exact R.len, fun j d' hj e => ?_, ?_, fun j k w m => ?_, fun j k k' m m' => ?_⟩
  · obtain ⟨h1, h2⟩ := nin_insK hj
    rw [List.getElem?_set_ne (Ne.symm h1)] at e
    obtain ⟨v', h3, h4⟩ := R'.fz j d' h2 e
    exact ⟨v', by rw [List.getElem?_set_ne (Ne.symm h1)]; exact h3, h4⟩
  · obtain ⟨fq, h1, h2⟩ := R.ow
    -- the footprints: the others' as far as they are alive
    refine ⟨fpN O ρ fq i fp, fun j k d' hj e => ?_, fun j j' a hne ha hb => ?_⟩
    · rcases mem_insK.mp hj with ⟨rfl, rfl⟩ | ⟨hne, m⟩
      · have hlen : j < ρ.length := by
          have := (List.getElem?_eq_some_iff.mp e).1
          rwa [List.length_set] at this
        rw [List.getElem?_set_self hlen] at e
        cases e
        refine ⟨v, List.getElem?_set_self (by rw [R.len]; exact hlen), by rw [fpN_self]; exact o, fun a ha => ?_⟩
        rw [fpN_self] at ha
        exact ⟨R.base.hh.free (n a ha).1, (n a ha).2⟩
      · rw [List.getElem?_set_ne (Ne.symm hne)] at e
        obtain ⟨v', e1, o', n'⟩ := h1 j k d' m e
        refine ⟨v', by rw [List.getElem?_set_ne (Ne.symm hne)]; exact e1, ?_, fun a ha => ?_⟩
        · rw [fpN_live hne m e]; exact o'.stp s
        · rw [fpN_live hne m e] at ha
          exact ⟨(n' a ha).1, s.sep a (o'.here a ha) (n' a ha).2⟩
    · have alive : ∀ {q : Nat}, q ≠ i → a ∈ fpN O ρ fq i fp q → a ∈ fq q ∧ H a ≠ none := fun {q} hq h => by
        obtain ⟨z, k, d', m, e⟩ := fpN_mem hq h
        obtain ⟨_, _, o', _⟩ := h1 q k d' m e
        exact ⟨z, o'.here a z⟩
      by_cases hj : j = i
      · have hj' : j' ≠ i := fun z => hne (hj.trans z.symm)
        subst hj
        rw [fpN_self] at ha
        exact (alive hj' hb).2 (n a ha).1
      · obtain ⟨a1, a2⟩ := alive hj ha
        by_cases hj' : j' = i
        · subst hj'
          rw [fpN_self] at hb
          exact a2 (n a hb).1
        · exact h2 j j' a hne a1 (alive hj' hb).1
  · obtain ⟨p1, p2, p3⟩ := R.par j k w m
    have hne : j ≠ i := fun z => by subst z; rw [lsl_of hl p1] at p2; cases p2
    exact ⟨mem_insK.mpr (.inr ⟨hne, p1⟩), p2, by rw [List.getElem?_set_ne (Ne.symm hne)]; exact p3⟩
  · rcases mem_insK.mp m with ⟨rfl, rfl⟩ | ⟨hne, m⟩
    · rcases mem_insK.mp m' with ⟨_, rfl⟩ | ⟨hne, _⟩
      · rfl
      · exact absurd rfl hne
    · rcases mem_insK.mp m' with ⟨z, _⟩ | ⟨_, m'⟩
      · exact absurd z hne
      · exact R.uq j k k' m m'
/-- a thing of the def's own is changed, or another one made of it is put into its place -/
theorem Rep.changeV {K : PySem.W.Frag} {Γ : Gh} {G H : Hp} {σ : L2.St} {ρ : Dv} {i : Nat} {kd : Kd} {d : PyData} (R : Rep K Γ G H O σ ρ) (hi : (i, kd) ∈ O) (e : ρ[i]? = some (some d)) :
    ∃ v fp, σ[i]? = some (some v) ∧ Own K G H kd v fp d ∧ (∀ a, a ∈ fp → Γ.H0 a = none ∧ G a = none) ∧
      ∀ (G' H1 H' : Hp) (v' : V) (fp' : List Addr) (d' : PyData), Stp G H G' H1 → (∀ a, a ∈ fp → G' a = none) → (kd.isL = true ∨ v' = v) → Own K G' H' kd v' fp' d' → (∀ a, a ∉ fp → H1 a ≠ none → H' a = H1 a) → (∀ a, a ∈ fp' → a ∈ fp ∨ (H a = none ∧ G' a = none)) → Rep K Γ G' H' O (σ.set i (some v')) (ρ.set i (some d')) := by
  obtain ⟨fq, h1, h2⟩ := R.ow
  obtain ⟨v, e1, o, n⟩ := h1 i kd d hi e
  have hlen : i < ρ.length := (List.getElem?_eq_some_iff.mp e).1
  refine ⟨v, fq i, e1, o, n, fun G' H1 H' v' fp' d' s gn hk o' kp new => ?_⟩
  have R' := R.stp s
  have keep : ∀ a u, a ∉ fq i → H1 a = some u → H' a = some u := fun a u ha q => by rw [kp a ha (by rw [q]; exact fun z => nomatch z)]; exact q
  refine ⟨⟨fun a u q => keep a u (fun z => ?_) (R'.base.hh a u q), R'.base.gg, fun a u q => keep a u (fun z => ?_) (R'.base.gh a u q), R'.base.sep⟩, by rw [List.length_set, List.length_set]; exact R.len, fun j d2 hj e2 => ?_, ?_, fun j k w m => ?_, R.uq⟩
  · rw [(n a z).1] at q; cases q
  · rw [gn a z] at q; cases q
  · have hne : i ≠ j := fun z => nin_of hj (kd := kd) (by rw [← z]; exact hi)
    rw [List.getElem?_set_ne hne] at e2
    rw [List.getElem?_set_ne hne]
    exact R'.fz j d2 hj e2
  · refine ⟨fpN O ρ fq i fp', fun j k d2 hj e2 => ?_, fun j j' a hne ha hb => ?_⟩
    · by_cases hji : j = i
      · subst hji
        rw [List.getElem?_set_self hlen] at e2
        cases e2
        have ek := R.uq j k kd hj hi
        subst ek
        refine ⟨v', List.getElem?_set_self (by rw [R.len]; exact hlen), by rw [fpN_self]; exact o', fun a ha => ?_⟩
        rw [fpN_self] at ha
        rcases new a ha with z | ⟨z, z'⟩
        · exact ⟨(n a z).1, gn a z⟩
        · exact ⟨R.base.hh.free z, z'⟩
      · rw [List.getElem?_set_ne (Ne.symm hji)] at e2
        obtain ⟨_, f1, f2, f3⟩ := h1 j k d2 hj e2
        refine ⟨_, (List.getElem?_set_ne (Ne.symm hji)).trans f1, ?_, fun a ha => ?_⟩
        · rw [fpN_live hji hj e2]
          refine (f2.stp s).frame (Same.refl _) fun a ha => kp a (h2 j i a hji ha) ((f2.stp s).here a ha)
        · rw [fpN_live hji hj e2] at ha
          exact ⟨(f3 a ha).1, s.sep a (f2.here a ha) (f3 a ha).2⟩
    · have alive : ∀ {q : Nat}, q ≠ i → a ∈ fpN O ρ fq i fp' q → a ∈ fq q ∧ H a ≠ none := fun {q} hq h => by
        obtain ⟨z, k, d', m, e⟩ := fpN_mem hq h
        obtain ⟨_, _, o', _⟩ := h1 q k d' m e
        exact ⟨z, o'.here a z⟩
      have cross : ∀ {q : Nat}, q ≠ i → a ∈ fp' → a ∈ fq q → H a ≠ none → False := fun {q} hq ha' hb' hh => by
        rcases new a ha' with z | ⟨z, _⟩
        · exact h2 q i a hq hb' z
        · exact hh z
      by_cases hj : j = i
      · have hj' : j' ≠ i := fun z => hne (hj.trans z.symm)
        subst hj
        rw [fpN_self] at ha
        obtain ⟨b1, b2⟩ := alive hj' hb
        exact cross hj' ha b1 b2
      · obtain ⟨a1, a2⟩ := alive hj ha
        by_cases hj' : j' = i
        · subst hj'
          rw [fpN_self] at hb
          exact cross hj hb a1 a2
        · exact h2 j j' a hne a1 (alive hj' hb).1
  · obtain ⟨p1, p2, p3⟩ := R.par j k w m
    refine ⟨p1, p2, ?_⟩
    by_cases hji : j = i
    · subst hji
      have ek := R.uq j k kd p1 hi
      subst ek
      rcases hk with hk | hk
      · rw [hk] at p2; cases p2
      · rw [e1] at p3
        cases p3
        rw [hk]
        exact List.getElem?_set_self (by rw [R.len]; exact hlen)
    · rw [List.getElem?_set_ne (Ne.symm hji)]; exact p3
theorem set_self {α : Type} {l : List α} {i : Nat} {x : α} (h : l[i]? = some x) : l.set i x = l := by
  apply List.ext_getElem?
  intro k
  by_cases e : i = k
  · subst e; rw [List.getElem?_set_self (List.getElem?_eq_some_iff.mp h).1, h]
  · rw [List.getElem?_set_ne e]
/-- a thing of the def's own is changed -/
theorem Rep.change {K : PySem.W.Frag} {Γ : Gh} {G H : Hp} {σ : L2.St} {ρ : Dv} {i : Nat} {kd : Kd} {d : PyData} (R : Rep K Γ G H O σ ρ) (hi : (i, kd) ∈ O) (e : ρ[i]? = some (some d)) :
    ∃ v fp, σ[i]? = some (some v) ∧ Own K G H kd v fp d ∧ (∀ a, a ∈ fp → Γ.H0 a = none ∧ G a = none) ∧
      ∀ (G' H1 H' : Hp) (fp' : List Addr) (d' : PyData), Stp G H G' H1 → (∀ a, a ∈ fp → G' a = none) → Own K G' H' kd v fp' d' → (∀ a, a ∉ fp → H1 a ≠ none → H' a = H1 a) → (∀ a, a ∈ fp' → a ∈ fp ∨ (H a = none ∧ G' a = none)) → Rep K Γ G' H' O σ (ρ.set i (some d')) := by
  obtain ⟨v, fp, h1, h2, h3, ch⟩ := R.changeV hi e
  refine ⟨v, fp, h1, h2, h3, fun G' H1 H' fp' d' s gn o kp new => ?_⟩
  have := ch G' H1 H' v fp' d' s gn (.inr rfl) o kp new
  rwa [set_self h1] at this
theorem seto_imp {i : Nat} {te : TE} {D : Ends} {σ : L2.St} {H : Hp} (hl : lsl i O = true) (hO : O' = insK i .lst O) (w : ∀ Q, RO X.K O L σ H Q → te σ H Q) (h : RS X.K W O O' OL (setO i L) D σ H) : tAsg te (gName i) D σ H := by
  obtain ⟨Γ, G, ρ, r, R, er, f⟩ := h
  obtain ⟨d, e1, rfl⟩ := setS_some er
  unfold lstF at e1
  cases q : L ρ with
  | none => rw [q] at e1; cases e1
  | some ds =>
    rw [q] at e1; cases e1
    exact w _ ⟨Γ, G, ρ, ds, R, q, fun p xs G' H' s n g hp da => f _ G' H' (by rw [hO]; exact R.storeK s hl (.lst hp da) fun a ha => by rw [List.mem_singleton.mp ha]; exact ⟨n, g⟩)⟩
theorem s_setO {i : Nat} {x : Str} (hN : X.N.Nodup) (hi : X.N[i]? = some x) (hx : Loc X.env.scope x) (hl : lsl i O = true) (hO : O' = insK i .lst O) (he : PE X e (RO X.K O L)) (hs : swapsWith e (some (.Name x pos')) pos.line X.env = pure false := by rfl) (hf : X.fn x = true ∨ X.env.scope.names.lookup x = some .local := by first | exact .inl rfl | exact .inr rfl | assumption) :
    PS X (.Assign [.Name x pos'] e pos) (RS X.K W O O' OL (setO i L)) := ps_imp (ps_set hN hi hx he hs hf) fun D σ H h => seto_imp hl hO (fun Q h' => h') h
/-- x = [e for ..] on one line, x a plain local -/
theorem s_setLc {i : Nat} {y : Str} {py spos : Pos} {elt iter tg : Expr} {ifs : List Expr} {scope : Scope} {own : List (Str × Nat)} {Fs : Fl} {us : List Nat} {g : TG} {tgt : Tgt} {C : Dv → Option Bool} {E : Fd} (hc : X.calm = true) (hN : X.N.Nodup) (hy : X.N[i]? = some y) (hyl : X.env.scope.names.lookup y = some .local) (hO : nin i O = true)
    (hsw : swapsWith (.ListComp elt [⟨tg, iter, ifs, 0⟩] scope pos) (some (.Name y py)) spos.line X.env = pure true) (hi : PI X tg iter (RI X.K O Fs)) (ok : BlkOk X.N X.env.scope scope own)
    (htg : TgD X.K O g tgt us) (hus : ∀ x, x ∈ us → x ∈ own.map (·.2)) (hvs : (own.map (·.2)).all (fun i => nin i O) = true)
    (hg : ∀ (s : Shared) (H : Hp) (C : Addr) (cl : List (Str × Addr)) (fp : List Addr), PG (X.blk s H scope (compEnvC scope cl C X.env) fp) tg g) (ht : ∀ (s : Shared) (H : Hp) (C' : Addr) (cl : List (Str × Addr)) (fp : List Addr), PTs (X.blk s H scope (compEnvC scope cl C' X.env) fp) ifs (RT X.K O C))
    (he : ∀ (s : Shared) (H : Hp) (C : Addr) (cl : List (Str × Addr)) (fp : List Addr), PE (X.blk s H scope (compEnvC scope cl C X.env) fp) elt (RD X.K O E)) (hs : ∀ x, foldedSetIterable iter X.env x = pure x := by intro _; rfl) :
    PS X (.Assign [.Name y py] (.ListComp elt [⟨tg, iter, ifs, 0⟩] scope pos) spos) (RS X.K W O O OL (setS i (lstF (lcF Fs (own.map (·.2)) tgt C E)))) :=
  ps_imp (ps_setLc hc hN hy hyl hsw hi ok hg ht he hs) fun D σ H h => by
    obtain ⟨Γ, G, ρ, r, R, er, f⟩ := h
    obtain ⟨d, e1, rfl⟩ := setS_some er
    unfold lstF at e1
    cases q : lcF Fs (own.map (·.2)) tgt C E ρ with
    | none => rw [q] at e1; cases e1
    | some ds =>
      rw [q] at e1; cases e1
      refine lc_imp htg hus hvs ⟨Γ, G, ρ, ds, R, q, fun p xs G' H' s n g hp da => ?_⟩
      have s' := s.frz n g hp
      exact f _ _ H' ((R.stp s').store hO (.lst (SqL.of upd_same) (dpAll_mono (fun a u z => by rw [upd_ne (ne_of_none z g)]; exact z) ds xs da)))
theorem s_setLcO {i : Nat} {y : Str} {py spos : Pos} {elt iter tg : Expr} {ifs : List Expr} {scope : Scope} {own : List (Str × Nat)} {Fs : Fl} {us : List Nat} {g : TG} {tgt : Tgt} {C : Dv → Option Bool} {E : Fd} (hc : X.calm = true) (hN : X.N.Nodup) (hy : X.N[i]? = some y) (hyl : X.env.scope.names.lookup y = some .local) (hl : lsl i O = true) (hO : O' = insK i .lst O)
    (hsw : swapsWith (.ListComp elt [⟨tg, iter, ifs, 0⟩] scope pos) (some (.Name y py)) spos.line X.env = pure true) (hi : PI X tg iter (RI X.K O Fs)) (ok : BlkOk X.N X.env.scope scope own)
    (htg : TgD X.K O g tgt us) (hus : ∀ x, x ∈ us → x ∈ own.map (·.2)) (hvs : (own.map (·.2)).all (fun i => nin i O) = true)
    (hg : ∀ (s : Shared) (H : Hp) (C : Addr) (cl : List (Str × Addr)) (fp : List Addr), PG (X.blk s H scope (compEnvC scope cl C X.env) fp) tg g) (ht : ∀ (s : Shared) (H : Hp) (C' : Addr) (cl : List (Str × Addr)) (fp : List Addr), PTs (X.blk s H scope (compEnvC scope cl C' X.env) fp) ifs (RT X.K O C))
    (he : ∀ (s : Shared) (H : Hp) (C : Addr) (cl : List (Str × Addr)) (fp : List Addr), PE (X.blk s H scope (compEnvC scope cl C X.env) fp) elt (RD X.K O E)) (hs : ∀ x, foldedSetIterable iter X.env x = pure x := by intro _; rfl) :
    PS X (.Assign [.Name y py] (.ListComp elt [⟨tg, iter, ifs, 0⟩] scope pos) spos) (RS X.K W O O' OL (setO i (lcF Fs (own.map (·.2)) tgt C E))) :=
  ps_imp (ps_setLc hc hN hy hyl hsw hi ok hg ht he hs) fun D σ H h => seto_imp hl hO (fun Q h' => lc_imp htg hus hvs h') h
/-! ### x.append(e), x an own list -/
def appS (i : Nat) (F : Fd) : Bs := fun ρ => match dvGet ρ i, F ρ with
  | some (.list ds), some d => if ds.length < 16777216 then some (.nx (ρ.set i (some (.list (ds ++ [d]))))) else none
  | _, _ => none
theorem appS_some {i : Nat} {ρ : Dv} {r : Res} (h : appS i F ρ = some r) : ∃ ds d, dvGet ρ i = some (.list ds) ∧ F ρ = some d ∧ ds.length < 16777216 ∧ r = .nx (ρ.set i (some (.list (ds ++ [d])))) := by
  unfold appS at h
  split at h
  · rename_i ds d e1 e2
    split at h
    · cases h; exact ⟨ds, d, e1, e2, by assumption, rfl⟩
    · cases h
  · cases h
theorem s_app {y : Str} {apos cpos : Pos} (i : Nat) (hi : (i, Kd.lst) ∈ O)
    (hb : PE X (.Call (.Attribute (.Name y pos') "append" apos) [e] [] cpos) (tBM X.K "list" rAppend (tVar i) (tCons (RD X.K O F) tNil)))
    (hs : swapsWith (.Call (.Attribute (.Name y pos') "append" apos) [e] [] cpos) none pos.line X.env = pure false := by rfl) :
    PS X (.Expr (.Call (.Attribute (.Name y pos') "append" apos) [e] [] cpos) pos) (RS X.K W O O OL (appS i F)) := ps_imp (ps_expr hb hs) fun D σ H ⟨Γ, G, ρ, r, R, er, f⟩ => by
  obtain ⟨ds, d, e1, e2, hl, rfl⟩ := appS_some er
  have e1' := dvGet_some e1
  obtain ⟨w, fp, f2, o, n, ch⟩ := R.change hi e1'
  cases o with
  | lst hp da =>
    rename_i p xs
    refine ⟨_, f2, .inl ⟨rfl, _, SqL.of hp⟩, Γ, G, ρ, d, R, e2, fun v G' H' s dv => ?_⟩
    have h5 := s.hh _ _ hp
    have g5 := s.sep p (by rw [hp]; exact fun z => nomatch z) (n p (by simp)).2
    refine ⟨p, xs, v, rfl, rfl, h5, by rw [da.length, line_eq]; exact hl, ?_⟩
    refine f σ G' _ (ch G' H' _ [p] _ s (fun a ha => by rw [List.mem_singleton.mp ha]; exact g5) (.lst upd_same ((dpAll_mono s.gg _ _ da).append (.cons dv .nil))) (fun a ha _ => upd_ne fun z => ha (by simp [z])) fun a ha => .inl ha)

/-! ### loops -/
/-- the base heap with the frozen part -/
def hun (H0 G : Hp) : Hp := fun a => match H0 a with | some o => some o | none => G a
theorem hun_some {H0 G : Hp} {a : Addr} {o : HO} (h : hun H0 G a = some o) : H0 a = some o ∨ (H0 a = none ∧ G a = some o) := by
  unfold hun at h
  cases q : H0 a with
  | none => rw [q] at h; exact .inr ⟨rfl, h⟩
  | some u => rw [q] at h; exact .inl h
def Gh.at (Γ : Gh) (G : Hp) : Gh := ⟨hun Γ.H0 G, G, Γ.op⟩
theorem Rep.rebase {K : PySem.W.Frag} {Γ : Gh} {G H : Hp} {σ : L2.St} {ρ : Dv} (R : Rep K Γ G H O σ ρ) : Rep K (Γ.at G) G H O σ ρ := by
  refine ⟨⟨fun a o e => ?_, Same.refl _, R.gh, fun _ _ e => e⟩, R.len, R.fz, ?_, R.par, R.uq⟩
  · rcases hun_some e with e | ⟨_, e⟩
    · exact R.base.hh a o e
    · exact R.gh a o e
  · obtain ⟨fp, h1, h2⟩ := R.ow
    refine ⟨fp, fun i kd d hi e => ?_, h2⟩
    obtain ⟨v, e1, o, n⟩ := h1 i kd d hi e
    exact ⟨v, e1, o, fun a ha => ⟨by show hun Γ.H0 G a = none; unfold hun; rw [(n a ha).1]; exact (n a ha).2, (n a ha).2⟩⟩
theorem base_back {H0 G0 G H G' H' : Hp} (b : Stp G0 H0 G H) (s : Stp G (hun H0 G) G' H') : Stp G0 H0 G' H' := by
  refine ⟨fun a o e => s.hh a o (by unfold hun; rw [e]), b.gg.trans s.gg, s.gh, fun a n e => ?_⟩
  refine s.sep a (fun z => ?_) (b.sep a n e)
  unfold hun at z
  cases q : H0 a with
  | none => exact n q
  | some u => rw [q] at z; cases z
theorem Rep.back {K : PySem.W.Frag} {Γ : Gh} {G H G' H' : Hp} {σ : L2.St} {ρ : Dv} (b : Stp Γ.G0 Γ.H0 G H) (R : Rep K (Γ.at G) G' H' O σ ρ) : Rep K Γ G' H' O σ ρ := by
  refine ⟨base_back b R.base, R.len, R.fz, ?_, R.par, R.uq⟩
  obtain ⟨fp, h1, h2⟩ := R.ow
  refine ⟨fp, fun i kd d hi e => ?_, h2⟩
  obtain ⟨v, e1, o, n⟩ := h1 i kd d hi e
  refine ⟨v, e1, o, fun a ha => ⟨?_, (n a ha).2⟩⟩
  have z : hun Γ.H0 G a = none := (n a ha).1
  unfold hun at z
  cases q : Γ.H0 a with
  | none => rfl
  | some u => rw [q] at z; cases z
def forGo (tgt : Tgt) (B : Bs) : List PyData → Dv → Option Res
  | [], ρ => some (.nx ρ)
  | d :: ds, ρ => (tgt d ρ).bind fun ρ1 => match B ρ1 with
    | some (.nx ρ') => forGo tgt B ds ρ'
    | some (.ct ρ') => forGo tgt B ds ρ'
    | some (.brk ρ') => some (.nx ρ')
    | some (.ret d ρ') => some (.ret d ρ')
    | some (.exc c ρ') => some (.exc c ρ')
    | none => none
def forS (Fs : Fl) (tgt : Tgt) (B : Bs) : Bs := fun ρ => (Fs ρ).bind fun ds => forGo tgt B ds ρ
theorem s_for {tg iter : Expr} {Fs : Fl} {g : TG} {tgt : Tgt} {us : List Nat} (hp : PassesOwn (model X.prog X.w) X.A X.env X.xe) (hc : X.calm = true) (hi : PI X tg iter (RI X.K O Fs)) (htg : TgD X.K O g tgt us) (hg : PG X tg g) (hb : PSs X body (RS X.K W O O O B))
    (hs : ∀ x, foldedSetIterable iter X.env x = pure x := by intro _; rfl) : PS X (.For tg iter body [] pos) (RS X.K W O O OL (forS Fs tgt B)) := ps_imp (ps_for hp hc hi hg hb hs) fun D σ H ⟨Γ, G, ρ, r, R, er, f⟩ => by
  unfold forS at er
  cases e1 : Fs ρ with
  | none => rw [e1] at er; cases er
  | some ds =>
    rw [e1] at er
    have er : forGo tgt B ds ρ = some r := er
    refine ⟨Γ, G, ρ, ds, R, e1, fun J G1 H1 s1 it len => ?_⟩
    have bs : Stp Γ.G0 Γ.H0 G1 H1 := (R.stp s1).base
    refine ⟨fun i m σ2 H2 => m = ds.length - i ∧ i ≤ ds.length ∧ ∃ G2 ρ2, Rep X.K (Γ.at G1) G2 H2 O σ2 ρ2 ∧ forGo tgt B (ds.drop i) ρ2 = some r, ⟨ds.length, by simp, Nat.zero_le _, G1, ρ, (R.stp s1).rebase, er⟩, ?_⟩
    rintro i m σ2 H2 ⟨rfl, hle, G2, ρ2, R2, el⟩
    by_cases hlt : i < ds.length
    · refine .inr ⟨it.go i G2 H2 R2.base.gg R2.gh hlt, fun σ' H' => i + 1 ≤ ds.length ∧ ∃ G2 ρ2, Rep X.K (Γ.at G1) G2 H' O σ' ρ2 ∧ forGo tgt B (ds.drop (i + 1)) ρ2 = some r, fun σ' H' w => ⟨ds.length - (i + 1), by omega, rfl, w⟩, fun x H3 y => ?_⟩
      obtain ⟨G3, d, s3, hd, dv⟩ := it.yl i G2 H2 x H3 R2.base.gg R2.gh hlt y
      have ed : ds.drop i = d :: ds.drop (i + 1) := by
        rw [List.drop_eq_getElem_cons hlt]
        congr 1
        rw [List.getElem?_eq_getElem hlt] at hd
        exact Option.some.inj hd
      rw [ed] at el
      simp only [forGo] at el
      cases e2 : tgt d ρ2 with
      | none => rw [e2] at el; cases el
      | some ρ3 =>
        rw [e2, Option.bind_some] at el
        refine htg _ G3 H3 _ _ _ x d _ (R2.stp s3) dv e2 fun σ3 R3 _ => ?_
        cases e3 : B ρ3 with
        | none => rw [e3] at el; cases el
        | some z =>
          rw [e3] at el
          refine ⟨_, G3, ρ3, z, R3, e3, ?_⟩
          cases z with
          | nx ρ' => exact fun σ' G' H' R' => ⟨hlt, G', ρ', R', el⟩
          | ct ρ' => exact fun σ' G' H' R' => ⟨hlt, G', ρ', R', el⟩
          | brk ρ' => cases el; exact fun σ' G' H' R' => f σ' G' H' (Rep.back bs R')
          | ret d' ρ' => cases el; exact fun v σ' G' H' Or R' dv => f v σ' G' H' Or (Rep.back bs R') dv
          | exc c ρ' => cases el; exact fun σ' G' H' Or R' => f σ' G' H' Or (Rep.back bs R')
    · have hi' : i = ds.length := by omega
      rw [hi', List.drop_length] at el
      cases el
      exact .inl ⟨by rw [hi']; exact it.st G2 H2 R2.base.gg R2.gh, f σ2 G2 H2 (Rep.back bs R2)⟩
def whGo (C : Dv → Option Bool) (B : Bs) : Nat → Dv → Option Res
  | 0, _ => none
  | n + 1, ρ => match C ρ with
    | some false => some (.nx ρ)
    | some true => match B ρ with
      | some (.nx ρ') => whGo C B n ρ'
      | some (.ct ρ') => whGo C B n ρ'
      | some (.brk ρ') => some (.nx ρ')
      | some (.ret d ρ') => some (.ret d ρ')
      | some (.exc c ρ') => some (.exc c ρ')
      | none => none
    | none => none
theorem s_while {c : Expr} (n : Nat) (hp : PassesOwn (model X.prog X.w) X.A X.env X.xe) (hc : PT X c (RT X.K O C)) (hb : PSs X body (RS X.K W O O O B)) : PS X (.While c body [] pos) (RS X.K W O O OL (whGo C B n)) := ps_imp (ps_while hp hc hb) fun D σ H ⟨Γ, G, ρ, r, R, er, f⟩ => by
  refine ⟨fun m σ H => ∃ G ρ, Rep X.K Γ G H O σ ρ ∧ whGo C B m ρ = some r, ⟨n, G, ρ, R, er⟩, ?_⟩
  rintro m σ2 H2 ⟨G2, ρ2, R2, el⟩
  cases m with
  | zero => cases el
  | succ m =>
    simp only [whGo] at el
    cases e1 : C ρ2 with
    | none => rw [e1] at el; cases el
    | some b =>
      rw [e1] at el
      refine ⟨Γ, G2, ρ2, b, R2, e1, fun G3 H3 s3 => ?_⟩
      cases b with
      | false => cases el; exact iteF (f σ2 G3 H3 (R2.stp s3))
      | true =>
        refine iteT ⟨fun σ' H' => ∃ G ρ, Rep X.K Γ G H' O σ' ρ ∧ whGo C B m ρ = some r, fun σ' H' w => ⟨m, Nat.lt_succ_self m, w⟩, ?_⟩
        cases e3 : B ρ2 with
        | none => rw [e3] at el; cases el
        | some z =>
          rw [e3] at el
          refine ⟨Γ, G3, ρ2, z, R2.stp s3, e3, ?_⟩
          cases z with
          | nx ρ' => exact fun σ' G' H' R' => ⟨G', ρ', R', el⟩
          | ct ρ' => exact fun σ' G' H' R' => ⟨G', ρ', R', el⟩
          | brk ρ' => cases el; exact fun σ' G' H' R' => f σ' G' H' R'
          | ret d' ρ' => cases el; exact fun v σ' G' H' Or R' dv => f v σ' G' H' Or R' dv
          | exc c ρ' => cases el; exact fun σ' G' H' Or R' => f σ' G' H' Or R'

/-! ### defs -/
def spD (K : PySem.W.Frag) (f : List PyData → Option PyData) : Sp := fun vs H Q _ => ∃ G ds d, Same G H ∧ DpAll K G vs ds ∧ f ds = some d ∧ ∀ v G' H', Stp G H G' H' → Dp K G' v d → Q v H'
def env0 (n : Nat) (ds : List PyData) : Dv := ds.map some ++ List.replicate (n - ds.length) none
/-- n slots, k parameters -/
def runF (n k : Nat) (B : Bs) (ds : List PyData) : Option PyData := if ds.length = k then (match B (env0 n ds) with | some (.ret d _) => some d | some (.nx _) => some .none | _ => none) else none
theorem rep_start {K : PySem.W.Frag} {G H : Hp} {N : List Str} {vs : List V} {ds : List PyData} (gh : Same G H) (da : DpAll K G vs ds) (hl : vs.length ≤ N.length) : Rep K ⟨H, G, []⟩ G H [] (L2.start N vs) (env0 N.length ds) := by
  refine ⟨Stp.refl gh, ?_, fun i d _ e => ?_, ⟨fun _ => [], (fun i kd d hi => nomatch hi), (fun i j a _ ha => nomatch ha)⟩, (fun i kd v m => nomatch m), (fun i k k' m => nomatch m)⟩
  · unfold L2.start env0
    simp only [List.length_append, List.length_map, List.length_replicate, da.length]
  · unfold env0 at e
    by_cases h : i < ds.length
    · rw [List.getElem?_append_left (by rw [List.length_map]; exact h), List.getElem?_map] at e
      cases q : ds[i]? with
      | none => rw [q] at e; cases e
      | some d' =>
        rw [q] at e; cases e
        obtain ⟨v, h1, h2⟩ := da.get q
        refine ⟨v, ?_, h2⟩
        unfold L2.start
        rw [List.getElem?_append_left (by rw [List.length_map, da.length]; exact h), List.getElem?_map, h1]
        rfl
    · rw [List.getElem?_append_right (by rw [List.length_map]; omega), List.getElem?_replicate] at e
      split at e <;> cases e
theorem runF_some {n k : Nat} {B : Bs} {ds : List PyData} {d : PyData} (h : runF n k B ds = some d) : ds.length = k ∧ ∃ r, B (env0 n ds) = some r ∧ ((∃ ρ, r = .ret d ρ) ∨ (∃ ρ, r = .nx ρ) ∧ d = .none) := by
  unfold runF at h
  split at h
  · refine ⟨by assumption, ?_⟩
    split at h
    · cases h; exact ⟨_, by assumption, .inl ⟨_, rfl⟩⟩
    · cases h; exact ⟨_, by assumption, .inr ⟨⟨_, rfl⟩, rfl⟩⟩
    · cases h
  · cases h
theorem fn_d {P : Program} {w : World} {K : PySem.W.Frag} {mg : Str → Option Value} {base : Heap} {x qual : Str} {st : Stmt} {f : Addr} {fd : FuncData} {N ps : List Str} {k n np : Nat} {B : Bs} (F : Fun K x qual st f fd) (S : FnScope N ps (defScope st)) (hn : N.length = n) (hnp : ps.length = np) (hle : np ≤ n)
    (hb : ∀ (cdv : Value) (A : Around) (outer : List Env) (s : Shared) (H : Hp) (E : XK), Room k (A.deeper (envOfC qual (defScope st) s.heap.objs.size f cdv)) →
      ∃ O' OL, PSs (cxOf CX0 P w K mg base N qual (defScope st) f cdv A outer s H E).nox (defBody st) (RS K E0 [] O' OL B)) : FnOk P w K mg base CX0 (k + 1) f fd ps (spD K (runF n np B)) := by
  refine F.ok S (fun vs H Q E h => ?_) (fun cdv A outer s H vs Q E hr h => ?_)
  · obtain ⟨G, ds, d, gh, da, ef, _⟩ := h
    rw [da.length, (runF_some ef).1, hnp]
  · obtain ⟨G, ds, d, gh, da, ef, q⟩ := h
    obtain ⟨h1, r, h2, h3⟩ := runF_some ef
    obtain ⟨O', OL, hbody⟩ := hb cdv A outer s H E hr
    refine ⟨_, hbody, ⟨H, G, []⟩, G, env0 n ds, r, ?_, h2, ?_⟩
    · rw [← hn]
      exact rep_start gh da (by rw [da.length, h1]; omega)
    · rcases h3 with ⟨ρ, rfl⟩ | ⟨⟨ρ, rfl⟩, rfl⟩
      · exact fun v σ G' H' Or R dv => q v G' H' R.base dv
      · exact fun σ G' H' R => q _ G' H' R.base .non
theorem FnD.imp {P : Program} {w : World} {K : PySem.W.Frag} {mg : Str → Option Value} {base : Heap} {CX : CXT} {k : Nat} {f : Addr} {fd : FuncData} {ps : List Str} {g g' : List PyData → Option PyData} (F : FnOk P w K mg base CX k f fd ps (spD K g)) (h : ∀ ds d, g' ds = some d → g ds = some d) : FnOk P w K mg base CX k f fd ps (spD K g') :=
  F.imp fun vs H Q E ⟨G, ds, d, gh, da, ef, q⟩ => ⟨G, ds, d, gh, da, h ds d ef, q⟩
section
variable {f : Addr} {fd : FuncData} {ps : List Str} {g : List PyData → Option PyData} {k : Nat} {x : Str} {p : Pos} {es : List Expr}
theorem d_call {CX : CXT} {E : XK} (G : FnOk X.prog X.w X.K X.mg X.base CX k f fd ps (spD X.K g)) (hr : Room k X.A) (hg : Gl X x) (hm : X.mg x = some (.ref f)) (hk : PySem.W.keepIn X.K (.ref f) = true) (hb : Binds X.K fd ps []) (hx : Passes CX X E)
    (ha : PA X (e :: es) (RA X.K O L)) (hdb : (x == ("__debug__" : Str)) = false := by decide) (he : starEach (e :: es) X.env = (false, eval e X.env) :: starEach es X.env := by rfl) (hpl : (backTo pos (starEach es X.env)).any (·.1) = false := by rfl) :
    PE X (.Call (.Name x p) (e :: es) [] pos) (RD X.K O (fL g L)) := pe_imp (pe_call G hr hg hm hk hb .nil hx ha hdb he hpl) fun σ H Q ⟨Γ, G, ρ, d, R, ef, q⟩ => by
  obtain ⟨ds, e1, e2⟩ := fL_some ef
  exact ⟨Γ, G, ρ, ds, R, e1, fun vs G1 H1 s1 da => ⟨G1, ds, d, s1.gh, by rw [List.append_nil]; exact da, e2, fun v G' H' s dv => q v G' H' (s1.trans s) dv⟩⟩
end
end
end Dat
open PySem PySem.Spec PyProof.Rows L2
namespace Dat
/-! ### what stands at the top -/
structure Here (K : PySem.W.Frag) (mg : Str → Option Value) (x : Str) (st : Stmt) (ps : List Str) (f : Addr) (fd : FuncData) : Prop where
  fn : Fun K x x st f fd
  at_ : mg x = some (.ref f)
  bd : Binds K fd ps []
/-- a def that is known by its function over data -/
def Kn (P : Program) (w : World) (K : PySem.W.Frag) (mg : Str → Option Value) (base : Heap) (x : Str) (k : Nat) (ps : List Str) (g : List PyData → Option PyData) : Prop :=
  ∃ f fd, FnOk P w K mg base CX0 k f fd ps (spD K g) ∧ mg x = some (.ref f) ∧ PySem.W.keepIn K (.ref f) = true ∧ Binds K fd ps []
section
variable {P : Program} {w : World} {K : PySem.W.Frag} {mg : Str → Option Value} {base : Heap} {x : Str} {st : Stmt} {ps : List Str} {f : Addr} {fd : FuncData} {k : Nat} {g g' : List PyData → Option PyData}
theorem kd_of (h : Here K mg x st ps f fd) (F : FnOk P w K mg base CX0 k f fd ps (spD K g)) : Kn P w K mg base x k ps g := ⟨f, fd, F, h.at_, h.fn.kp, h.bd⟩
theorem Kn.imp (h : Kn P w K mg base x k ps g) (q : ∀ ds d, g' ds = some d → g ds = some d) : Kn P w K mg base x k ps g' := by
  obtain ⟨f, fd, F, a, b, c⟩ := h
  exact ⟨f, fd, FnD.imp F q, a, b, c⟩
theorem Kn.mono {j : Nat} (h : Kn P w K mg base x k ps g) (hj : k ≤ j) : Kn P w K mg base x j ps g := by
  obtain ⟨f, fd, F, a, b, c⟩ := h
  exact ⟨f, fd, F.mono hj, a, b, c⟩
/-- a def of which nothing is said -/
theorem Kn.zero (h : Here K mg x st ps f fd) : Kn P w K mg base x k ps (fun _ => none) :=
  ⟨f, fd, ⟨fun vs H Q E q => (by obtain ⟨_, _, _, _, _, z, _⟩ := q; cases z), fun A outer s H args us vs Q E hr he hb hv q => (by obtain ⟨_, _, _, _, _, z, _⟩ := q; cases z)⟩, h.at_, h.fn.kp, h.bd⟩
theorem hu200 {A : Around} (hr : Room k A) : A.units + 200 < cLine := by have := hr.un; omega
theorem here_mk {h : Heap} (X : K.In h) (G : h.Ns mainGlobals mg) {oc : Value} {od an : Option Addr} {osl : Array (Option Value)} {kV doc pm cdv ct : Value}
    (a : PySem.W.nsIn K mainGlobals x = some (some (.ref f))) (l : K.lookup f = some ⟨oc, od, .func (PySem.W.fnOf x x (defArgs st) (defBody st) (defScope st) .none kV doc pm an cdv ct), osl⟩) (c : PySem.W.codeIn K cdv x = true) (k : PySem.W.keepIn K (.ref f) = true)
    (b : ∀ (kV doc pm : Value) (an : Option Addr) (cdv ct : Value) (us : List Value), us.length = ps.length → bindArgs (PySem.W.fnOf x x (defArgs st) (defBody st) (defScope st) .none kV doc pm an cdv ct) ⟨us, []⟩ = pure (ps.zip us)) :
    Here K mg x st ps f (PySem.W.fnOf x x (defArgs st) (defBody st) (defScope st) .none kV doc pm an cdv ct) :=
  have F : Fun K x x st f (PySem.W.fnOf x x (defArgs st) (defBody st) (defScope st) .none kV doc pm an cdv ct) := fun_mk (st := st) l c k
  ⟨F, PySem.W.mg_of X G a, F.binds b⟩
end
section
variable {X : Cx} {e a b : Expr} {es : List Expr} {pos p : Pos} {O : Os} {F F' : Fd} {L : Fl} {ps : List Str} {g : List PyData → Option PyData} {k j : Nat} {x : Str}
theorem d_callK (D : Kn X.prog X.w X.K X.mg X.base x k ps g) (hr : Room j X.A) (hj : k ≤ j) (hx : Passes CX0 X E0) (hg : Gl X x) (ha : PA X (e :: es) (RA X.K O L)) (hdb : (x == ("__debug__" : Str)) = false := by decide)
    (he : starEach (e :: es) X.env = (false, eval e X.env) :: starEach es X.env := by rfl) (hpl : (backTo pos (starEach es X.env)).any (·.1) = false := by rfl) : PE X (.Call (.Name x p) (e :: es) [] pos) (RD X.K O (fL g L)) := by
  obtain ⟨f, fd, G, a, b, c⟩ := D
  exact d_call (G.mono hj) hr hg a b c hx ha hdb he hpl
/-- the items of a list or of a tuple -/
def seqA (F : Fd) : Fl := fun ρ => (F ρ).bind fun d => match d with | .list xs => some xs | .tuple xs => some xs | _ => none
theorem i_seq {tg : Expr} (h : PE X e (RD X.K O F)) : PI X tg e (RI X.K O (seqA F)) := ⟨fun pins s σ H R I ⟨Γ, G, ρ, ds, Rp, ef, q⟩ => by
  unfold seqA at ef
  cases e1 : F ρ with
  | none => rw [e1] at ef; cases ef
  | some d =>
    rw [e1] at ef
    cases d with
    | list xs => cases ef; exact (i_list h).run pins s σ H R I ⟨Γ, G, ρ, ds, Rp, by unfold seqF; rw [e1]; rfl, q⟩
    | tuple xs => cases ef; exact (i_tup h).run pins s σ H R I ⟨Γ, G, ρ, ds, Rp, by unfold seqT; rw [e1]; rfl, q⟩
    | none => cases ef
    | bool _ => cases ef
    | int _ => cases ef
    | str _ => cases ef
    | dict _ => cases ef⟩
/-- a list's slice, or a tuple's -/
def dSl (d : PyData) (lo hi : Option Int) : Option PyData := match d with
  | .list xs => some (.list (cutD xs lo hi))
  | .tuple xs => if ¬ (HT.sIx xs.length 0 lo = 0 ∧ HT.sIx xs.length xs.length hi = xs.length) then some (.tuple (cutD xs lo hi)) else none
  | _ => none
theorem d_sl {lo hi : Option Expr} {p2 : Pos} {P P' : Dv → Option (Option Int)} (ha : PE X a (RB X.K O F)) (hl : PO X lo (RP X.K O P)) (hu : PO X hi (RP X.K O P')) : PE X (.Subscript a (.Slice lo hi none p2) pos) (RD X.K O (slF dSl F P P')) :=
  ⟨fun pins s σ H Q I ⟨Γ, G, ρ, d, R, ef, q⟩ => by
    obtain ⟨dx, lo, hi, e1, e2, e3, e4⟩ := slF_some ef
    cases dx with
    | list xs =>
      refine (o_d (o_slL ha hl hu)).run pins s σ H Q I ⟨Γ, G, ρ, d, R, ?_, q⟩
      unfold lstF slF
      rw [e1, e2, e3]
      exact e4
    | tuple xs =>
      refine (d_slT ha hl hu).run pins s σ H Q I ⟨Γ, G, ρ, d, R, ?_, q⟩
      unfold slF
      rw [e1, e2, e3]
      exact e4
    | none => cases e4
    | bool _ => cases e4
    | int _ => cases e4
    | str _ => cases e4
    | dict _ => cases e4⟩
end
/-- the law's promise, from its function over data -/
theorem law_sp {K : PySem.W.Frag} {f : List PyData → Option PyData} (h : ∀ ns : List Int, ns.length ≤ 63 → f [.list (ns.map .int)] = some (.bool true)) {H : Hp} {a : Addr} {ns : List Int} (hl : ns.length ≤ 63) (hS : SqL K H a (ns.map V.int)) (Q : VK) (E : XK) (hq : ∀ H', Q (.bl true) H') : spD K f [.ref a] H Q E := by
  have da : ∀ ms : List Int, DpAll K H (ms.map V.int) (ms.map PyData.int) := fun ms => by
    induction ms with
    | nil => exact .nil
    | cons m ms ih => exact .cons (.int m) ih
  exact ⟨H, _, _, Same.refl _, .cons (.lst hS (da ns)) .nil, h ns hl, fun v G' H' s dv => by cases dv; exact hq H'⟩
end Dat
open PySem PySem.Spec PyProof.Rows L2
namespace Dat
section
variable {W : XK} {X : Cx} {e a b : Expr} {es : List Expr} {pos pos' p : Pos} {O O' OL : Os} {F F' : Fd} {L : Fl}
/-! ### a module's whole number -/
theorem d_glob {x : Str} {n : Int} (hg : Gl X x) (h : ∃ t, X.mg x = some (.int n t)) (hd : (x == ("__debug__" : Str)) = false := by decide) : PE X (.Name x pos) (RD X.K O (cF (.int n))) := by
  obtain ⟨t, h⟩ := h
  exact pe_imp (pe_glob (v := .int n) hg h ⟨t, rfl⟩ hd) fun σ H Q ⟨Γ, G, ρ, d, R, ef, q⟩ => by
    cases ef; exact q _ G H (Stp.refl R.gh) (.int n)
/-! ### what is only looked at whole -/
def RX (K : PySem.W.Frag) (O : Os) (F : Fd) : TE := fun σ H Q => ∃ Γ G ρ d, Rep K Γ G H O σ ρ ∧ F ρ = some d ∧ ∀ v G' H', Stp G H G' H' → Dp K H' v d → Q v H'
theorem x_b (h : PE X e (RB X.K O F)) : PE X e (RX X.K O F) := pe_imp h fun σ H Q ⟨Γ, G, ρ, d, R, ef, q⟩ => ⟨Γ, G, ρ, d, R, ef, fun v G' H' s b => q v G' H' s (b.dp s.gh)⟩
theorem x_var (i : Nat) (h : PE X e (tVar i)) (hi : lsl i O = true := by rfl) : PE X e (RX X.K O (vF i)) := pe_imp h fun σ H Q ⟨Γ, G, ρ, d, R, ef, q⟩ => by
  obtain ⟨v, h1, h2⟩ := R.bx (i := i) hi ef
  exact ⟨v, h1, q v G H (Stp.refl R.gh) h2⟩
def r2X (K : PySem.W.Frag) (g : PyData → PyData → Option PyData) : R2 := fun x y H Q => ∃ dx dy k, Dp K H x dx ∧ Dp K H y dy ∧ g dx dy = some (.bool k) ∧ Q (.bl k) H
theorem x_dEq (hu : X.A.units + 200 < cLine) : OpR X (compareOp .Eq) (r2X X.K dEq) := by
  intro pins s σ H x y v u Q I rx ry ⟨dx, dy, k, hx, hy, eg, q⟩
  unfold dEq at eg
  split at eg
  · rename_i hs
    cases eg
    obtain ⟨as, r1⟩ := Dp.reads I dx x v hx rx
    obtain ⟨bs, r2⟩ := Dp.reads I dy y u hy ry
    exact SeqAt.eq_plain r1 r2 (dp_plain _ _ hx) (dp_plain _ _ hy) (shal_min hs hu) ⟨.bl _, H, I, rfl, q⟩
  · cases eg
theorem x_dNe (hu : X.A.units + 200 < cLine) : OpR X (compareOp .NotEq) (r2X X.K dNe) := by
  intro pins s σ H x y v u Q I rx ry ⟨dx, dy, k, hx, hy, eg, q⟩
  unfold dNe at eg
  split at eg
  · rename_i hs
    cases eg
    obtain ⟨as, r1⟩ := Dp.reads I dx x v hx rx
    obtain ⟨bs, r2⟩ := Dp.reads I dy y u hy ry
    exact SeqAt.ne_plain r1 r2 (dp_plain _ _ hx) (dp_plain _ _ hy) (shal_min hs hu) ⟨.bl _, H, I, rfl, q⟩
  · cases eg
theorem topX_imp {g : PyData → PyData → Option PyData} {σ : L2.St} {H : Hp} {Q : Bool → Hp → Prop} (h : RT X.K O (asB (f2 g F F')) σ H Q) : tOp (r2X X.K g) (RX X.K O F) (RX X.K O F') σ H (fun x H' => ∃ k, x = .bl k ∧ Q k H') := by
  obtain ⟨Γ, G, ρ, b, R, eb, q⟩ := h
  obtain ⟨dx, dy, e1, e2, e3⟩ := f2_some (asB_some eb)
  exact ⟨Γ, G, ρ, dx, R, e1, fun x G1 H1 s1 bx => ⟨Γ, G1, ρ, dy, R.stp s1, e2, fun y G2 H2 s2 y2 => ⟨dx, dy, b, dp_mono s2.hh _ _ bx, y2, e3, b, rfl, q G2 H2 (s1.trans s2)⟩⟩⟩
theorem t_cmpX {op : CmpOp} {g : PyData → PyData → Option PyData} (ho : OpR X (compareOp op) (r2X X.K g)) (ha : PE X a (RX X.K O F)) (hb : PE X b (RX X.K O F')) (hm : behindInMarks op b = false) : PT X (.Compare a [op] [b] pos) (RT X.K O (asB (f2 g F F'))) :=
  pt_imp (pt_cmpR ho ha hb hm) fun σ H Q h => topX_imp h
/-! ### a list of own lists -/
theorem s_lol0 {i : Nat} {x : Str} (hN : X.N.Nodup) (hi : X.N[i]? = some x) (hx : Loc X.env.scope x) (hl : lsl i O = true) (hO : O' = insK i .lol O) (hs : swapsWith (.List [] p) (some (.Name x pos')) pos.line X.env = pure false := by rfl) (hf : X.fn x = true ∨ X.env.scope.names.lookup x = some .local := by first | exact .inl rfl | exact .inr rfl | assumption) :
    PS X (.Assign [.Name x pos'] (.List [] p) pos) (RS X.K W O O' OL (setO i (few nilA))) := ps_imp (ps_set hN hi hx (pe_lst pa_nil) hs hf) fun D σ H ⟨Γ, G, ρ, r, R, er, f⟩ => by
  obtain ⟨d, e1, rfl⟩ := setS_some er
  cases e1
  refine ⟨Nat.zero_le _, fun q hq => ?_⟩
  exact f _ G _ (by rw [hO]; exact R.storeK (Stp.new R.gh hq) hl (.lol (qs := []) upd_same .nil (by simp)) fun a ha => by rw [List.mem_singleton.mp ha]; exact ⟨hq, R.gh.free hq⟩)
def lolNewS (i : Nat) : Bs := fun ρ => match dvGet ρ i with
  | some (.list ds) => if ds.length < 16777216 then some (.nx (ρ.set i (some (.list (ds ++ [.list []]))))) else none
  | _ => none
theorem lolNewS_some {i : Nat} {ρ : Dv} {r : Res} (h : lolNewS i ρ = some r) : ∃ ds, dvGet ρ i = some (.list ds) ∧ ds.length < 16777216 ∧ r = .nx (ρ.set i (some (.list (ds ++ [.list []])))) := by
  unfold lolNewS at h
  split at h
  · split at h
    · cases h; exact ⟨_, by assumption, by assumption, rfl⟩
    · cases h
  · cases h
theorem Lols.length {K : PySem.W.Frag} {G H : Hp} : ∀ {qs : List Addr} {ds : List PyData}, Lols K G H qs ds → qs.length = ds.length
  | _, _, .nil => rfl
  | _, _, .cons _ _ t => by simp only [List.length_cons, Lols.length t]
theorem Lols.append {K : PySem.W.Frag} {G H : Hp} : ∀ {qs rs : List Addr} {ds es : List PyData}, Lols K G H qs ds → Lols K G H rs es → Lols K G H (qs ++ rs) (ds ++ es)
  | _, _, _, _, .nil, l => l
  | _, _, _, _, .cons h d t, l => .cons h d (Lols.append t l)
theorem Lols.split {K : PySem.W.Frag} {G H : Hp} : ∀ {ds es : List PyData} {qs : List Addr}, Lols K G H qs (ds ++ es) → ∃ rs ts, qs = rs ++ ts ∧ Lols K G H rs ds ∧ Lols K G H ts es
  | [], _, qs, l => ⟨[], qs, rfl, .nil, l⟩
  | d :: ds, es, _, l => by
    cases l with
    | cons h da t =>
      obtain ⟨rs, ts, rfl, l1, l2⟩ := Lols.split t
      exact ⟨_ :: rs, ts, rfl, .cons h da l1, l2⟩
/-- a new empty list behind it -/
theorem s_lolNew {y : Str} {apos cpos : Pos} (i : Nat) (hi : (i, Kd.lol) ∈ O)
    (hb : PE X (.Call (.Attribute (.Name y pos') "append" apos) [.List [] p] [] cpos) (tBM X.K "list" rAppend (tVar i) (tCons (tLst tNil) tNil)))
    (hs : swapsWith (.Call (.Attribute (.Name y pos') "append" apos) [.List [] p] [] cpos) none pos.line X.env = pure false := by rfl) :
    PS X (.Expr (.Call (.Attribute (.Name y pos') "append" apos) [.List [] p] [] cpos) pos) (RS X.K W O O OL (lolNewS i)) := ps_imp (ps_expr hb hs) fun D σ H ⟨Γ, G, ρ, r, R, er, f⟩ => by
  obtain ⟨ds, e1, hl, rfl⟩ := lolNewS_some er
  obtain ⟨w, fp, f2, o, n, ch⟩ := R.change hi (dvGet_some e1)
  cases o with
  | lol hp l nd =>
    rename_i q qs
    refine ⟨_, f2, .inl ⟨rfl, _, SqL.of hp⟩, Nat.zero_le _, fun c hc => ?_⟩
    have nqc : q ≠ c := ne_of_none hp hc
    refine ⟨q, _, _, rfl, rfl, by rw [upd_ne nqc]; exact hp, by rw [List.length_map, l.length, line_eq]; exact hl, ?_⟩
    have nc : c ∉ qs := fun z => l.here c z hc
    have nq : q ∉ qs := (List.nodup_cons.mp nd).1
    refine f σ G _ (ch G (upd H c (.lst [])) _ (q :: (qs ++ [c])) _ (Stp.new R.gh hc) (fun a ha => (n a ha).2) (.lol ?_ ?_ ?_) (fun a ha _ => upd_ne fun z => ha (by simp [z])) fun a ha => ?_)
    · rw [upd_same]; simp
    · refine ((l.frame (Same.refl _) fun a ha => ?_)).append (.cons ?_ .nil .nil)
      · rw [upd_ne (fun z => nq (by rw [← z]; exact ha)), upd_ne (fun z => nc (by rw [← z]; exact ha))]
      · rw [upd_ne (Ne.symm nqc), upd_same]
    · rw [List.nodup_cons, List.mem_append, List.nodup_append]
      refine ⟨fun z => ?_, (List.nodup_cons.mp nd).2, by simp, fun a ha b hb => ?_⟩
      · rcases z with z | z
        · exact nq z
        · exact nqc (List.mem_singleton.mp z)
      · rw [List.mem_singleton.mp hb]; exact fun z => nc (by rw [← z]; exact ha)
    · rcases List.mem_cons.mp ha with rfl | ha
      · exact .inl (by simp)
      · rcases List.mem_append.mp ha with ha | ha
        · exact .inl (by simp [ha])
        · rw [List.mem_singleton.mp ha]; exact .inr ⟨hc, R.gh.free hc⟩
/-- x = x + [[]] -/
theorem s_lolCat {i : Nat} {x : Str} {p1 p2 p3 : Pos} (hN : X.N.Nodup) (hi : X.N[i]? = some x) (hx : Loc X.env.scope x) (hO : (i, Kd.lol) ∈ O) (hv : PE X (.Name x p1) (tVar i))
    (hs : swapsWith (.BinOp (.Name x p1) .Add (.List [.List [] p2] p3) p) (some (.Name x pos')) pos.line X.env = pure false := by rfl) (hf : X.fn x = true ∨ X.env.scope.names.lookup x = some .local := by first | exact .inl rfl | exact .inr rfl | assumption)
    (hst : starEach [.List [] p2] X.env = (false, eval (.List [] p2) X.env) :: starEach [] X.env := by rfl) :
    PS X (.Assign [.Name x pos'] (.BinOp (.Name x p1) .Add (.List [.List [] p2] p3) p) pos) (RS X.K W O O OL (lolNewS i)) :=
  ps_imp (ps_set hN hi hx (pe_op op_cat hv (pe_lst (pa_cons (pe_lst pa_nil) pa_nil hst))) hs hf) fun D σ H ⟨Γ, G, ρ, r, R, er, f⟩ => by
  obtain ⟨ds, e1, hl, rfl⟩ := lolNewS_some er
  have e1' := dvGet_some e1
  obtain ⟨w, fp, f2, o, n, ch⟩ := R.changeV hO e1'
  cases o with
  | lol hp l nd =>
    rename_i q qs
    refine ⟨_, f2, Nat.zero_le _, fun c hc => ⟨by show 1 ≤ sizeLine; decide, fun c2 hc2 => ?_⟩⟩
    have hc2' : H c2 = none := (same_new hc).free hc2
    have n12 : c2 ≠ c := fun z => by rw [z, upd_same] at hc2; cases hc2
    have nqc : q ≠ c := ne_of_none hp hc
    have nqc2 : q ≠ c2 := ne_of_none hp hc2'
    refine ⟨q, c2, _, _, rfl, rfl, by rw [upd_ne nqc2, upd_ne nqc]; exact hp, upd_same, by rw [List.length_map, l.length, line_eq]; show ds.length + 1 ≤ _; omega, fun c3 hc3 => ?_⟩
    have hc3' : H c3 = none := ((same_new hc).trans (same_new hc2)).free hc3
    have n31 : c3 ≠ c := fun z => by rw [z, upd_ne (Ne.symm n12), upd_same] at hc3; cases hc3
    have n32 : c3 ≠ c2 := fun z => by rw [z, upd_same] at hc3; cases hc3
    have nc : c ∉ qs := fun z => l.here c z hc
    have nc2 : c2 ∉ qs := fun z => l.here c2 z hc2'
    have nc3 : c3 ∉ qs := fun z => l.here c3 z hc3'
    have s1 := Stp.new (o := .lst []) R.gh hc
    have s2 := Stp.new (o := .lst [V.ref c]) s1.gh hc2
    have s3 := Stp.new (o := .lst (qs.map V.ref ++ [V.ref c])) s2.gh hc3
    have st := (s1.trans s2).trans s3
    -- the old list is forgotten, its lists stand in the new one
    refine f _ G _ ?_
    have own : Own X.K G (upd (upd (upd H c (.lst [])) c2 (.lst [V.ref c])) c3 (.lst (qs.map V.ref ++ [V.ref c]))) .lol (.ref c3) (c3 :: (qs ++ [c])) (.list (ds ++ [.list []])) := by
      refine .lol (by rw [upd_same]; simp) (((l.frame (Same.refl _) fun a ha => ?_)).append (.cons ?_ .nil .nil)) ?_
      · rw [upd_ne (fun z => nc3 (by rw [← z]; exact ha)), upd_ne (fun z => nc2 (by rw [← z]; exact ha)), upd_ne (fun z => nc (by rw [← z]; exact ha))]
      · rw [upd_ne (Ne.symm n31), upd_ne (Ne.symm n12), upd_same]
      · rw [List.nodup_cons, List.mem_append, List.nodup_append]
        refine ⟨fun z => ?_, (List.nodup_cons.mp nd).2, by simp, fun a ha b hb => ?_⟩
        · rcases z with z | z
          · exact nc3 z
          · exact n31 (List.mem_singleton.mp z)
        · rw [List.mem_singleton.mp hb]; exact fun z => nc (by rw [← z]; exact ha)
    refine ch G _ _ (.ref c3) (c3 :: (qs ++ [c])) _ st (fun a ha => (n a ha).2) (.inl rfl) own (fun _ _ _ => rfl) fun a ha => ?_
    rcases List.mem_cons.mp ha with rfl | ha
    · exact .inr ⟨hc3', R.gh.free hc3'⟩
    · rcases List.mem_append.mp ha with ha | ha
      · exact .inl (by simp [ha])
      · rw [List.mem_singleton.mp ha]; exact .inr ⟨hc, R.gh.free hc⟩
/-- x[-1].append(e) -/
def lolAppS (i : Nat) (F : Fd) : Bs := fun ρ => match dvGet ρ i, F ρ with
  | some (.list ds), some d => match ds.getLast? with
    | some (.list es) => if es.length < 16777216 then some (.nx (ρ.set i (some (.list (ds.dropLast ++ [.list (es ++ [d])]))))) else none
    | _ => none
  | _, _ => none
theorem lolAppS_some {i : Nat} {ρ : Dv} {r : Res} (h : lolAppS i F ρ = some r) : ∃ ds es d, dvGet ρ i = some (.list (ds ++ [.list es])) ∧ F ρ = some d ∧ es.length < 16777216 ∧ r = .nx (ρ.set i (some (.list (ds ++ [.list (es ++ [d])])))) := by
  unfold lolAppS at h
  split at h
  · rename_i ds d e1 e2
    split at h
    · rename_i es e3
      split at h
      · cases h
        obtain ⟨l, el⟩ := List.getLast?_eq_some_iff.mp e3
        subst el
        exact ⟨l, es, d, e1, e2, by assumption, by simp⟩
      · cases h
    · cases h
  · cases h
theorem s_lolApp {apos cpos : Pos} {o : Expr} (i : Nat) (hi : (i, Kd.lol) ∈ O)
    (hb : PE X (.Call (.Attribute o "append" apos) [e] [] cpos) (tBM X.K "list" rAppend (tOp (rIxL X.K) (tVar i) (tUn (rU fun i => .int (-i)) (tC (.int 1)))) (tCons (RD X.K O F) tNil)))
    (hs : swapsWith (.Call (.Attribute o "append" apos) [e] [] cpos) none pos.line X.env = pure false := by rfl) :
    PS X (.Expr (.Call (.Attribute o "append" apos) [e] [] cpos) pos) (RS X.K W O O OL (lolAppS i F)) := ps_imp (ps_expr hb hs) fun D σ H ⟨Γ, G, ρ, r, R, er, f⟩ => by
  obtain ⟨ds, es, d, e1, e2, hl, rfl⟩ := lolAppS_some er
  obtain ⟨w, fp, f2, o, n, ch⟩ := R.change hi (dvGet_some e1)
  cases o with
  | lol hp l nd =>
    rename_i q qs
    obtain ⟨rs, ts, rfl, l1, l2⟩ := Lols.split l
    cases l2 with
    | cons hq da t =>
      cases t
      rename_i c xs
      refine ⟨_, f2, 1, rfl, q, _, _, .ref c, rfl, rfl, SqL.of hp, by simp only [List.map_append, List.map_cons, List.map_nil]; exact atI_last _ _, .inl ⟨rfl, _, SqL.of hq⟩, Γ, G, ρ, d, R, e2, fun v G' H' s dv => ?_⟩
      have h5 := s.hh _ _ hq
      have h6 := s.hh _ _ hp
      refine ⟨c, xs, v, rfl, rfl, h5, by rw [da.length, line_eq]; exact hl, ?_⟩
      obtain ⟨nq, nds⟩ := List.nodup_cons.mp nd
      rw [List.nodup_append] at nds
      have gn : ∀ a, a ∈ q :: (rs ++ [c]) → G' a = none := fun a ha => s.sep a ((Own.lol hp l nd).here a ha) (n a ha).2
      have nqc : q ≠ c := fun z => nq (by simp [z])
      refine f σ G' _ (ch G' H' _ (q :: (rs ++ [c])) _ s gn (.lol (by rw [upd_ne nqc]; exact h6) ((l1.frame s.gg fun a ha => ?_).append (.cons upd_same ((dpAll_mono s.gg _ _ da).append (.cons dv .nil)) .nil)) nd) (fun a ha _ => upd_ne fun z => ha (by simp [z])) fun a ha => .inl ha)
      have nac : a ≠ c := nds.2.2 a ha c (by simp)
      rw [upd_ne nac]
      cases q2 : H a with
      | none => exact absurd q2 (l1.here a ha)
      | some u => exact s.hh a u q2
end
end Dat
open PySem PySem.Spec PyProof.Rows L2
namespace Dat
/-! ### evaluating -/
section
variable {ρ : Dv} {F F' F'' : Fd} {L : Fl} {B B' : Bs} {C C' : Dv → Option Bool} {i : Nat}
@[simp] theorem e_seqS : seqS B B' ρ = (match B ρ with | some (.nx ρ') => B' ρ' | r => r) := rfl
@[simp] theorem e_setS : setS i F ρ = (F ρ).map fun d => .nx (ρ.set i (some d)) := rfl
@[simp] theorem e_setO : setO i L ρ = (L ρ).map fun d => .nx (ρ.set i (some (.list d))) := by
  unfold setO setS lstF; cases L ρ <;> rfl
@[simp] theorem e_ifS : ifS C B B' ρ = (match C ρ with | some true => B ρ | some false => B' ρ | none => none) := rfl
@[simp] theorem e_nopS : nopS ρ = some (.nx ρ) := rfl
@[simp] theorem e_retS : retS F ρ = (F ρ).map fun d => .ret d ρ := rfl
@[simp] theorem e_retN : retN ρ = some (.ret .none ρ) := rfl
@[simp] theorem e_exS : exS F ρ = (F ρ).map fun _ => .nx ρ := rfl
@[simp] theorem e_ctS : ctS ρ = some (.ct ρ) := rfl
@[simp] theorem e_brkS : brkS ρ = some (.brk ρ) := rfl
@[simp] theorem e_f2 {g : PyData → PyData → Option PyData} : f2 g F F' ρ = (F ρ).bind fun x => (F' ρ).bind fun y => g x y := rfl
@[simp] theorem e_f1 {g : PyData → Option PyData} : f1 g F ρ = (F ρ).bind g := rfl
@[simp] theorem e_vF : vF i ρ = (ρ[i]?).join := rfl
@[simp] theorem e_cF {d : PyData} : cF d ρ = some d := rfl
@[simp] theorem e_asB : asB F ρ = (F ρ).bind fun d => match d with | .bool b => some b | _ => none := rfl
@[simp] theorem e_notT : notT C ρ = (C ρ).map (!·) := rfl
@[simp] theorem e_andT : andT C C' ρ = (match C ρ with | some true => C' ρ | some false => some false | none => none) := rfl
@[simp] theorem e_orT : orT C C' ρ = (match C ρ with | some true => some true | some false => C' ρ | none => none) := rfl
@[simp] theorem e_blF : blF C ρ = (C ρ).map .bool := rfl
@[simp] theorem e_andF : andF F F' ρ = (match F ρ with | some (.bool true) => F' ρ | some (.bool false) => some (.bool false) | _ => none) := rfl
@[simp] theorem e_orF : orF F F' ρ = (match F ρ with | some (.bool true) => some (.bool true) | some (.bool false) => F' ρ | _ => none) := rfl
@[simp] theorem e_ifF : ifF C F F' ρ = (match C ρ with | some true => F ρ | some false => F' ρ | none => none) := rfl
@[simp] theorem e_fL {α : Type} {g : List PyData → Option α} : fL g L ρ = (L ρ).bind g := rfl
@[simp] theorem e_consA : consA F L ρ = (F ρ).bind fun d => (L ρ).map fun ds => d :: ds := rfl
@[simp] theorem e_nilA : nilA ρ = some [] := rfl
@[simp] theorem e_tupF : tupF L ρ = (L ρ).bind fun ds => if ds.length ≤ 1000 then some (.tuple ds) else none := by
  unfold tupF few
  cases L ρ with
  | none => rfl
  | some ds => simp only [Option.bind_some]; split <;> rfl
@[simp] theorem e_few : few L ρ = (L ρ).bind fun ds => if ds.length ≤ 1000 then some ds else none := rfl
@[simp] theorem e_lstF : lstF L ρ = (L ρ).map .list := rfl
@[simp] theorem e_chF {g g' : PyData → PyData → Option PyData} : chF g g' F F' F'' ρ = (match f2 g F F' ρ with
  | some (.bool true) => f2 g' F' F'' ρ
  | some (.bool false) => some (.bool false)
  | _ => none) := rfl
@[simp] theorem e_someP : someP F ρ = (F ρ).bind fun d => match d with | .int i => some (some i) | _ => none := by
  unfold someP asI
  cases F ρ with
  | none => rfl
  | some d => cases d <;> rfl
@[simp] theorem e_noP : noP ρ = some none := rfl
@[simp] theorem e_slF {α : Type} {g : PyData → Option Int → Option Int → Option α} {P P' : Dv → Option (Option Int)} : slF g F P P' ρ = (F ρ).bind fun d => (P ρ).bind fun lo => (P' ρ).bind fun hi => g d lo hi := rfl
@[simp] theorem e_seqA : seqA F ρ = (F ρ).bind fun d => match d with | .list xs => some xs | .tuple xs => some xs | _ => none := rfl
@[simp] theorem e_exN {n : Nat} : exN n L ρ = (L ρ).bind fun ds => if ds.length = n then some ds else none := rfl
@[simp] theorem e_yesT : yesT ρ = some true := rfl
@[simp] theorem e_enF : enF F ρ = ((F ρ).bind fun d => match d with | .list xs => some xs | _ => none).map numbered := rfl
@[simp] theorem e_forS {Fs : Fl} {tgt : Tgt} : forS Fs tgt B ρ = (Fs ρ).bind fun ds => forGo tgt B ds ρ := rfl
@[simp] theorem e_lcF {Fs : Fl} {vs : List Nat} {tgt : Tgt} {E : Fd} : lcF Fs vs tgt C E ρ = (Fs ρ).bind fun ds => lcGo tgt C E (wipeD ρ vs) ds := rfl
@[simp] theorem e_tgN {d : PyData} : tgN i d ρ = some (ρ.set i (some d)) := rfl
@[simp] theorem e_tgP {j : Nat} {a b : PyData} : tgP i j (.tuple [a, b]) ρ = some ((ρ.set i (some a)).set j (some b)) := rfl
@[simp] theorem e_wipeN : wipeD ρ [] = ρ := rfl
@[simp] theorem e_wipeC {vs : List Nat} : wipeD ρ (i :: vs) = (wipeD ρ vs).set i none := rfl
@[simp] theorem e_appS {ds : List PyData} {d : PyData} : appS i F ρ = (match dvGet ρ i, F ρ with
  | some (.list ds), some d => if ds.length < 16777216 then some (.nx (ρ.set i (some (.list (ds ++ [d]))))) else none
  | _, _ => none) := rfl
@[simp] theorem e_lolNewS : lolNewS i ρ = (match dvGet ρ i with
  | some (.list ds) => if ds.length < 16777216 then some (.nx (ρ.set i (some (.list (ds ++ [.list []]))))) else none
  | _ => none) := rfl
@[simp] theorem e_lolAppS : lolAppS i F ρ = (match dvGet ρ i, F ρ with
  | some (.list ds), some d => match ds.getLast? with
    | some (.list es) => if es.length < 16777216 then some (.nx (ρ.set i (some (.list (ds.dropLast ++ [.list (es ++ [d])]))))) else none
    | _ => none
  | _, _ => none) := rfl
@[simp] theorem e_runF {n k : Nat} {ds : List PyData} : runF n k B ds = if ds.length = k then (match B (env0 n ds) with | some (.ret d _) => some d | some (.nx _) => some .none | _ => none) else none := rfl
@[simp] theorem e_env0 {n : Nat} {ds : List PyData} : env0 n ds = ds.map some ++ List.replicate (n - ds.length) none := rfl
@[simp] theorem e_dvGet : dvGet ρ i = (ρ[i]?).join := rfl
@[simp] theorem e_dAdd {i j : Int} : dAdd (.int i) (.int j) = some (.int (i + j)) := rfl
@[simp] theorem e_dAddL {xs ys : List PyData} : dAdd (.list xs) (.list ys) = if xs.length + ys.length ≤ 16777216 then some (.list (xs ++ ys)) else none := rfl
@[simp] theorem e_dSub {i j : Int} : dSub (.int i) (.int j) = some (.int (i - j)) := rfl
@[simp] theorem e_dMul {i j : Int} : dMul (.int i) (.int j) = if (-(2 ^ 64) < i ∧ i < 2 ^ 64) ∨ (-(2 ^ 64) < j ∧ j < 2 ^ 64) then some (.int (i * j)) else none := rfl
@[simp] theorem e_dMod {i j : Int} : dMod (.int i) (.int j) = if 0 < j then some (.int (i % j)) else none := rfl
@[simp] theorem e_dDiv {i j : Int} : dDiv (.int i) (.int j) = if 0 < j ∧ j < 1073741824 then some (.int (i / j)) else none := rfl
@[simp] theorem e_dPow {i j : Int} : dPow (.int i) (.int j) = if 0 ≤ j ∧ j ≤ 1000000 ∧ i.natAbs < 2 ^ 64 then some (.int (i ^ j.toNat)) else none := rfl
@[simp] theorem e_dNeg {i : Int} : dNeg (.int i) = some (.int (-i)) := rfl
@[simp] theorem e_dLt {i j : Int} : dLt (.int i) (.int j) = some (.bool (decide (i < j))) := rfl
@[simp] theorem e_dLe {i j : Int} : dLe (.int i) (.int j) = some (.bool (decide (i ≤ j))) := rfl
@[simp] theorem e_dGt {i j : Int} : dGt (.int i) (.int j) = some (.bool (decide (j < i))) := rfl
@[simp] theorem e_dGe {i j : Int} : dGe (.int i) (.int j) = some (.bool (decide (j ≤ i))) := rfl
@[simp] theorem e_dIxL {xs : List PyData} {i : Int} : dIx (.list xs) (.int i) = atI xs i := rfl
@[simp] theorem e_dIxT {xs : List PyData} {i : Int} : dIx (.tuple xs) (.int i) = atI xs i := rfl
@[simp] theorem e_lenL {xs : List PyData} : dLen [.list xs] = some (.int xs.length) := rfl
@[simp] theorem e_lenT {xs : List PyData} : dLen [.tuple xs] = some (.int xs.length) := rfl
@[simp] theorem e_dListL {xs : List PyData} : dList [.list xs] = some xs := rfl
@[simp] theorem e_dListT {xs : List PyData} : dList [.tuple xs] = some xs := rfl
@[simp] theorem e_dTupleL {xs : List PyData} : dTuple [.list xs] = some (.tuple xs) := rfl
@[simp] theorem e_dTupleT {xs : List PyData} : dTuple [.tuple xs] = some (.tuple xs) := rfl
@[simp] theorem e_dIsi {f : PyData → Bool} {d : PyData} : dIsi f d = some (.bool (f d)) := rfl
@[simp] theorem e_intB {b : Bool} : dInt [.bool b] = some (.int (if b then 1 else 0)) := rfl
@[simp] theorem e_intI {i : Int} : dInt [.int i] = some (.int i) := rfl
@[simp] theorem e_eqI {i j : Int} : dEq (.int i) (.int j) = some (.bool (decide (i = j))) := by
  unfold dEq
  rw [if_pos (.inl rfl)]
  simp only [PyData.eqv, Bool.beq_eq_decide_eq]
@[simp] theorem e_neI {i j : Int} : dNe (.int i) (.int j) = some (.bool (!decide (i = j))) := by
  unfold dNe
  rw [if_pos (.inl rfl)]
  simp only [PyData.eqv, Bool.beq_eq_decide_eq]
@[simp] theorem e_eqS {i j : Str} : dEq (.str i) (.str j) = some (.bool (decide (i = j))) := by
  unfold dEq
  rw [if_pos (.inl rfl)]
  simp only [PyData.eqv, Bool.beq_eq_decide_eq]
@[simp] theorem e_neS {i j : Str} : dNe (.str i) (.str j) = some (.bool (!decide (i = j))) := by
  unfold dNe
  rw [if_pos (.inl rfl)]
  simp only [PyData.eqv, Bool.beq_eq_decide_eq]
@[simp] theorem e_isList {xs : List PyData} : PyData.isList (.list xs) = true := rfl
@[simp] theorem e_isTuple {xs : List PyData} : PyData.isTuple (.tuple xs) = true := rfl
@[simp] theorem e_isStr {x : Str} : PyData.isStr (.str x) = true := rfl
@[simp] theorem e_isInt {x : Int} : PyData.isInt (.int x) = true := rfl
@[simp] theorem e_isBool {x : Int} : PyData.isBool (.int x) = false := rfl
@[simp] theorem e_isBoolB {x : Bool} : PyData.isBool (.bool x) = true := rfl
@[simp] theorem e_range1 {j : Int} : dRange [.int j] = if j ≤ 16777216 ∧ -16777216 ≤ j then some (upFrom 0 j.toNat) else none := rfl
@[simp] theorem e_range2 {i j : Int} : dRange [.int i, .int j] = if j ≤ 16777216 ∧ -16777216 ≤ i ∧ i ≤ 16777216 ∧ -16777216 ≤ j ∧ j - i ≤ 16777216 then some (upFrom i (j - i).toNat) else none := rfl
end

/-! ### lists by place -/
theorem atI_map {α β : Type} (f : α → β) (xs : List α) (i : Int) : atI (xs.map f) i = (atI xs i).map f := by
  unfold atI
  rw [List.length_map]
  cases ixN xs.length i with
  | none => rfl
  | some j => simp
theorem atI_of {α : Type} {xs : List α} {i : Int} {j : Nat} {v : α} (h : i = (j : Int)) (e : xs[j]? = some v) : atI xs i = some v := by
  rw [h]; exact atI_nat e
@[simp] theorem at0 {α : Type} {a : α} {r : List α} : atI (a :: r) 0 = some a := atI_nat (j := 0) rfl
@[simp] theorem at1 {α : Type} {a b : α} {r : List α} : atI (a :: b :: r) 1 = some b := atI_nat (j := 1) rfl
@[simp] theorem at2 {α : Type} {a b c : α} {r : List α} : atI (a :: b :: c :: r) 2 = some c := atI_nat (j := 2) rfl

/-! ### comprehensions -/
theorem lc_map {tgt : Tgt} {E : Fd} {ρ : Dv} {α : Type} (enc g : α → PyData) : ∀ (xs : List α), (∀ x, x ∈ xs → (tgt (enc x) ρ).bind E = some (g x)) → lcGo tgt yesT E ρ (xs.map enc) = some (xs.map g)
  | [], _ => rfl
  | x :: xs, h => by
    have h1 := h x (by simp)
    have ih := lc_map enc g xs fun y hy => h y (by simp [hy])
    rw [List.map_cons]
    unfold lcGo
    cases e : tgt (enc x) ρ with
    | none => rw [e] at h1; cases h1
    | some ρ1 =>
      rw [e, Option.bind_some] at h1
      simp [h1, ih]
theorem lc_range {tgt : Tgt} {E : Fd} {ρ : Dv} (lo : Int) (n : Nat) (g : Nat → PyData) (h : ∀ k, k < n → (tgt (.int (lo + k)) ρ).bind E = some (g k)) : lcGo tgt yesT E ρ (upFrom lo n) = some ((List.range n).map g) :=
  lc_map (fun k : Nat => PyData.int (lo + k)) g (List.range n) fun k hk => h k (List.mem_range.mp hk)
theorem lc_filter {tgt : Tgt} {C : Dv → Option Bool} {E : Fd} {ρ : Dv} {α : Type} (enc g : α → PyData) (p : α → Bool) : ∀ (xs : List α), (∀ x, x ∈ xs → ∃ ρ1, tgt (enc x) ρ = some ρ1 ∧ C ρ1 = some (p x) ∧ (p x = true → E ρ1 = some (g x))) → lcGo tgt C E ρ (xs.map enc) = some ((xs.filter p).map g)
  | [], _ => rfl
  | x :: xs, h => by
    obtain ⟨ρ1, h1, h2, h3⟩ := h x (by simp)
    have ih := lc_filter enc g p xs fun y hy => h y (by simp [hy])
    rw [List.map_cons]
    unfold lcGo
    rw [h1, Option.bind_some, h2]
    cases e : p x with
    | true => simp [h3 e, ih, List.filter_cons, e]
    | false => simp [ih, List.filter_cons, e]

/-! ### the loops -/
/-- a loop whose every turn goes on -/
theorem for_go {tgt : Tgt} {B : Bs} {α S : Type} (enc : α → PyData) (R : S → Dv) (f : S → α → S) (Inv : List α → S → Prop) (all : List α)
    (h : ∀ pre x post s, all = pre ++ x :: post → Inv pre s → Inv (pre ++ [x]) (f s x) ∧ ((tgt (enc x) (R s)).bind B = some (.nx (R (f s x))) ∨ (tgt (enc x) (R s)).bind B = some (.ct (R (f s x))))) :
    ∀ (pre post : List α) (s : S), all = pre ++ post → Inv pre s → forGo tgt B (post.map enc) (R s) = some (.nx (R (post.foldl f s))) ∧ Inv all (post.foldl f s)
  | pre, [], s, e, i => ⟨rfl, by rw [e, List.append_nil]; exact i⟩
  | pre, x :: post, s, e, i => by
    obtain ⟨i2, h2⟩ := h pre x post s e i
    have ih := for_go enc R f Inv all h (pre ++ [x]) post (f s x) (by rw [e, List.append_assoc]; rfl) i2
    refine ⟨?_, ih.2⟩
    rw [List.map_cons]
    unfold forGo
    cases q : tgt (enc x) (R s) with
    | none => rw [q] at h2; simp at h2
    | some ρ1 =>
      rw [q, Option.bind_some] at h2
      rcases h2 with h2 | h2 <;> simp [h2, ih.1]
end Dat
open PySem PySem.Spec PyProof.Rows L2
namespace Dat
/-! ### marks, entries, rows -/
abbrev Mark := Bool × Nat
abbrev Entry := Int × Int
abbrev Row := Int × Mark
def sideS : Bool → Str
  | false => "bank"
  | true => "book"
def eMark (m : Mark) : PyData := .tuple [.str (sideS m.1), .int m.2]
def eEntry (e : Entry) : PyData := .tuple [.int e.1, .int e.2]
def eRow (r : Row) : PyData := .tuple [.int r.1, .str (sideS r.2.1), .int r.2.2]
theorem side_inj {a b : Bool} : sideS a = sideS b ↔ a = b := by
  cases a <;> cases b <;> simp [sideS] <;> decide +kernel
theorem side_bank (a : Bool) : (sideS a = ("bank" : Str)) ↔ a = false := side_inj (b := false)
theorem side_book (a : Bool) : (sideS a = ("book" : Str)) ↔ a = true := side_inj (b := true)
theorem eqv_mark (a b : Mark) : PyData.eqv (eMark a) (eMark b) = decide (a = b) := by
  obtain ⟨a1, a2⟩ := a
  obtain ⟨b1, b2⟩ := b
  simp only [eMark, PyData.eqv, PyData.eqvAll, Bool.and_true]
  rw [Bool.eq_iff_iff]
  simp [side_inj]
  intro _
  omega
theorem eqv_entry (a b : Entry) : PyData.eqv (eEntry a) (eEntry b) = decide (a = b) := by
  obtain ⟨a1, a2⟩ := a
  obtain ⟨b1, b2⟩ := b
  simp only [eEntry, PyData.eqv, PyData.eqvAll, Bool.and_true]
  rw [Bool.eq_iff_iff]
  simp
theorem eqvAll_map {α : Type} [DecidableEq α] {enc : α → PyData} (h : ∀ a b, PyData.eqv (enc a) (enc b) = decide (a = b)) : ∀ xs ys : List α, PyData.eqvAll (xs.map enc) (ys.map enc) = decide (xs = ys)
  | [], [] => rfl
  | [], _ :: _ => by simp [PyData.eqvAll]
  | _ :: _, [] => by simp [PyData.eqvAll]
  | x :: xs, y :: ys => by
    simp only [List.map_cons, PyData.eqvAll, h, eqvAll_map h xs ys]
    rw [Bool.eq_iff_iff]
    simp
/-! ### depth -/
theorem depthAll_le {xs : List PyData} {n : Nat} (h : ∀ x, x ∈ xs → x.depth ≤ n) : PyData.depthAll xs ≤ n := by
  induction xs with
  | nil => simp [PyData.depthAll]
  | cons x xs ih =>
    simp only [PyData.depthAll]
    have h1 := h x (by simp)
    have h2 := ih fun y hy => h y (by simp [hy])
    omega
theorem depthAll_map {α : Type} {enc : α → PyData} {n : Nat} (h : ∀ a, (enc a).depth ≤ n) (xs : List α) : PyData.depthAll (xs.map enc) ≤ n := depthAll_le fun x hx => by
  obtain ⟨a, _, rfl⟩ := List.mem_map.mp hx
  exact h a
theorem shalL {xs : List PyData} (h : PyData.depthAll xs ≤ 99) : shal (.list xs) = true := by
  unfold shal; simp only [PyData.depth]; exact decide_eq_true (by omega)
theorem shalT {xs : List PyData} (h : PyData.depthAll xs ≤ 99) : shal (.tuple xs) = true := by
  unfold shal; simp only [PyData.depth]; exact decide_eq_true (by omega)
theorem depth_mark (m : Mark) : (eMark m).depth = 1 := by simp [eMark, PyData.depth, PyData.depthAll]
theorem depth_entry (m : Entry) : (eEntry m).depth = 1 := by simp [eEntry, PyData.depth, PyData.depthAll]
theorem depth_row (m : Row) : (eRow m).depth = 1 := by simp [eRow, PyData.depth, PyData.depthAll]
theorem shal_of {d : PyData} {n : Nat} (h : d.depth = n) (hn : n ≤ 100 := by decide) : shal d = true := decide_eq_true (by omega)
theorem shal_map {α : Type} {enc : α → PyData} {n : Nat} (h : ∀ a, (enc a).depth = n) (xs : List α) (hn : n ≤ 99 := by decide) : shal (.list (xs.map enc)) = true := shalL (Nat.le_trans (depthAll_map (fun a => Nat.le_of_eq (h a)) xs) hn)
theorem shal_mapT {α : Type} {enc : α → PyData} {n : Nat} (h : ∀ a, (enc a).depth = n) (xs : List α) (hn : n ≤ 99 := by decide) : shal (.tuple (xs.map enc)) = true := shalT (Nat.le_trans (depthAll_map (fun a => Nat.le_of_eq (h a)) xs) hn)
/-- lists of alike things compared -/
theorem eq_lists {α : Type} [DecidableEq α] {enc : α → PyData} {n : Nat} (h : ∀ a b, PyData.eqv (enc a) (enc b) = decide (a = b)) (hd : ∀ a, (enc a).depth = n) (xs ys : List α) (hn : n ≤ 99 := by decide) : dEq (.list (xs.map enc)) (.list (ys.map enc)) = some (.bool (decide (xs = ys))) := by
  unfold dEq
  rw [if_pos (.inl (shal_map hd xs hn))]
  simp only [PyData.eqv, eqvAll_map h]
theorem ne_lists {α : Type} [DecidableEq α] {enc : α → PyData} {n : Nat} (h : ∀ a b, PyData.eqv (enc a) (enc b) = decide (a = b)) (hd : ∀ a, (enc a).depth = n) (xs ys : List α) (hn : n ≤ 99 := by decide) : dNe (.list (xs.map enc)) (.list (ys.map enc)) = some (.bool (!decide (xs = ys))) := by
  unfold dNe
  rw [if_pos (.inl (shal_map hd xs hn))]
  simp only [PyData.eqv, eqvAll_map h]
theorem any_map {α : Type} [DecidableEq α] {enc : α → PyData} (h : ∀ a b, PyData.eqv (enc a) (enc b) = decide (a = b)) (xs : List α) (x : α) : anyEq (xs.map enc) (enc x) = decide (x ∈ xs) := by
  unfold anyEq
  rw [List.any_map, Bool.eq_iff_iff, List.any_eq_true]
  constructor
  · rintro ⟨y, hy, e⟩
    have e' : y = x := by simpa [h] using e
    subst e'; simpa using hy
  · intro hx
    exact ⟨x, by simpa using hx, by simp [h]⟩
theorem in_list {α : Type} [DecidableEq α] {enc : α → PyData} {n : Nat} (h : ∀ a b, PyData.eqv (enc a) (enc b) = decide (a = b)) (hd : ∀ a, (enc a).depth = n) (xs : List α) (x : α) (hn : n ≤ 99 := by decide) : dIn (enc x) (.list (xs.map enc)) = some (.bool (decide (x ∈ xs))) := by
  unfold dIn
  simp only
  rw [if_pos (.inl (shal_map hd xs hn)), any_map h]
theorem notIn_list {α : Type} [DecidableEq α] {enc : α → PyData} {n : Nat} (h : ∀ a b, PyData.eqv (enc a) (enc b) = decide (a = b)) (hd : ∀ a, (enc a).depth = n) (xs : List α) (x : α) (hn : n ≤ 99 := by decide) : dNotIn (enc x) (.list (xs.map enc)) = some (.bool (!decide (x ∈ xs))) := by
  unfold dNotIn
  simp only
  rw [if_pos (.inl (shal_map hd xs hn)), any_map h]
theorem in_tup {α : Type} [DecidableEq α] {enc : α → PyData} {n : Nat} (h : ∀ a b, PyData.eqv (enc a) (enc b) = decide (a = b)) (hd : ∀ a, (enc a).depth = n) (xs : List α) (x : α) (hn : n ≤ 99 := by decide) : dIn (enc x) (.tuple (xs.map enc)) = some (.bool (decide (x ∈ xs))) := by
  unfold dIn
  simp only
  rw [if_pos (.inl (shal_mapT hd xs hn)), any_map h]
theorem notIn_tup {α : Type} [DecidableEq α] {enc : α → PyData} {n : Nat} (h : ∀ a b, PyData.eqv (enc a) (enc b) = decide (a = b)) (hd : ∀ a, (enc a).depth = n) (xs : List α) (x : α) (hn : n ≤ 99 := by decide) : dNotIn (enc x) (.tuple (xs.map enc)) = some (.bool (!decide (x ∈ xs))) := by
  unfold dNotIn
  simp only
  rw [if_pos (.inl (shal_mapT hd xs hn)), any_map h]

@[simp] theorem eq_nil {xs : List PyData} : dEq (.list xs) (.list []) = some (.bool xs.isEmpty) := by
  unfold dEq
  rw [if_pos (.inr rfl)]
  cases xs <;> rfl
@[simp] theorem ne_nil {xs : List PyData} : dNe (.list xs) (.list []) = some (.bool (!xs.isEmpty)) := by
  unfold dNe
  rw [if_pos (.inr rfl)]
  cases xs <;> rfl
@[simp] theorem eqB {a b : Bool} : dEq (.bool a) (.bool b) = some (.bool (a == b)) := by
  unfold dEq
  rw [if_pos (.inl rfl)]
  simp only [PyData.eqv]
@[simp] theorem neB {a b : Bool} : dNe (.bool a) (.bool b) = some (.bool (!(a == b))) := by
  unfold dNe
  rw [if_pos (.inl rfl)]
  simp only [PyData.eqv]
theorem eq_enc {α : Type} [DecidableEq α] {enc : α → PyData} {n : Nat} (h : ∀ a b, PyData.eqv (enc a) (enc b) = decide (a = b)) (hd : ∀ a, (enc a).depth = n) (a b : α) (hn : n ≤ 99 := by decide) : dEq (enc a) (enc b) = some (.bool (decide (a = b))) := by
  unfold dEq
  rw [if_pos (.inl (shal_of (hd a) (by omega))), h]
theorem ne_enc {α : Type} [DecidableEq α] {enc : α → PyData} {n : Nat} (h : ∀ a b, PyData.eqv (enc a) (enc b) = decide (a = b)) (hd : ∀ a, (enc a).depth = n) (a b : α) (hn : n ≤ 99 := by decide) : dNe (enc a) (enc b) = some (.bool (!decide (a = b))) := by
  unfold dNe
  rw [if_pos (.inl (shal_of (hd a) (by omega))), h]
/-! ### the order of tuples -/
def ltAll (xs ys : List PyData) : Bool := PyProof.Rows.lexLt itemOrd (PySem.W.keyToksAll xs) (PySem.W.keyToksAll ys)
theorem lt_tuple (xs ys : List PyData) : PySem.W.dataLt (.tuple xs) (.tuple ys) = ltAll xs ys := PySem.W.dataLt_tuple xs ys
theorem ltAll_nil : ltAll [] [] = false := by
  unfold ltAll
  cases h : PyProof.Rows.lexLt itemOrd (PySem.W.keyToksAll []) (PySem.W.keyToksAll []) with
  | false => rfl
  | true => simp [PySem.W.keyToksAll, PyProof.Rows.lexLt] at h <;> revert h <;> decide
theorem ltAll_nilC {y : PyData} {ys : List PyData} : ltAll [] (y :: ys) = true := by
  unfold ltAll
  rw [PySem.W.toks_all_cons]
  simp only [PySem.W.keyToksAll]
  rw [PySem.W.lex_atom (by simp) _ _]
  decide
theorem ltAll_consN {x : PyData} {xs : List PyData} : ltAll (x :: xs) [] = false := by
  unfold ltAll
  rw [PySem.W.toks_all_cons]
  simp only [PySem.W.keyToksAll]
  rw [PySem.W.lex_atom (by simp) _ _]
  decide
theorem ltAll_cons {x y : PyData} {xs ys : List PyData} (h : PySem.W.alike x y = true) : ltAll (x :: xs) (y :: ys) = if PyData.eqv x y = true then ltAll xs ys else PySem.W.dataLt x y := by
  unfold ltAll
  cases e : PyData.eqv x y with
  | true => rw [PySem.W.dataLt_all_yes h e]; simp
  | false => rw [PySem.W.dataLt_all_no h e]; simp
/-- an earlier row -/
def rowLt (a b : Row) : Bool := decide (a.1 < b.1 ∨ (a.1 = b.1 ∧ ((a.2.1 = false ∧ b.2.1 = true) ∨ (a.2.1 = b.2.1 ∧ a.2.2 < b.2.2))))
theorem lt_side (a b : Bool) : PySem.W.dataLt (.str (sideS a)) (.str (sideS b)) = decide (a = false ∧ b = true) := by
  rw [PySem.W.dataLt_str]
  cases a <;> cases b <;> decide +kernel
theorem lt_row (a b : Row) : PySem.W.dataLt (eRow a) (eRow b) = rowLt a b := by
  obtain ⟨a1, a2, a3⟩ := a
  obtain ⟨b1, b2, b3⟩ := b
  unfold eRow rowLt
  rw [lt_tuple, ltAll_cons rfl, ltAll_cons rfl, ltAll_cons rfl, ltAll_nil]
  simp only [PyData.eqv, PySem.W.dataLt_int, lt_side]
  rw [Bool.eq_iff_iff]
  by_cases h1 : a1 = b1
  · subst h1
    by_cases h2 : a2 = b2
    · subst h2
      by_cases h3 : a3 = b3
      · subst h3; simp
      · have h4 : ¬ ((a3 : Int) = b3) := by omega
        cases a2 <;> simp [h4]
    · have h4 : ¬ (sideS a2 = sideS b2) := fun z => h2 (side_inj.mp z)
      cases a2 <;> cases b2 <;> simp_all
  · simp [h1]
def rowLe (a b : Row) : Bool := !rowLt b a
theorem alike_row (a b : Row) : PySem.W.alike (eRow a) (eRow b) = true := by simp [eRow, PySem.W.alike, PySem.W.alikeAll]
theorem rowLt_trans {a b c : Row} (h : rowLe a b = true) (h' : rowLe b c = true) : rowLe a c = true := by
  obtain ⟨a1, a2, a3⟩ := a
  obtain ⟨b1, b2, b3⟩ := b
  obtain ⟨c1, c2, c3⟩ := c
  simp only [rowLe, rowLt, Bool.not_eq_true', decide_eq_false_iff_not] at *
  cases a2 <;> cases b2 <;> cases c2 <;> simp at * <;> omega
theorem rowLe_total (a b : Row) : (rowLe a b || rowLe b a) = true := by
  obtain ⟨a1, a2, a3⟩ := a
  obtain ⟨b1, b2, b3⟩ := b
  simp only [rowLe, rowLt, Bool.or_eq_true, Bool.not_eq_true', decide_eq_false_iff_not]
  cases a2 <;> cases b2 <;> simp <;> omega
theorem rowLt_of {a b : Row} (h : rowLe a b = true) (hn : a.2 ≠ b.2) : rowLt a b = true := by
  obtain ⟨a1, a2, a3⟩ := a
  obtain ⟨b1, b2, b3⟩ := b
  simp only [rowLe, rowLt, Bool.not_eq_true', decide_eq_false_iff_not, decide_eq_true_eq] at *
  cases a2 <;> cases b2 <;> simp at * <;> omega
/-- all rows: a day, a mark -/
def rowsOf (s : Bool) (es : List Entry) : List Row := es.mapIdx fun i e => (e.1, (s, i))
def rows (banks books : List Entry) : List Row := rowsOf false banks ++ rowsOf true books
def sortedRows (banks books : List Entry) : List Row := (rows banks books).mergeSort rowLe
theorem rowsOf_marks (s : Bool) (es : List Entry) : (rowsOf s es).map (·.2) = (List.range es.length).map fun i => (s, i) := by
  apply List.ext_getElem?
  intro i
  simp only [rowsOf, List.getElem?_map, List.getElem?_mapIdx]
  by_cases h : i < es.length
  · simp [h]
  · simp [h, List.getElem?_eq_none (Nat.le_of_not_lt h)]
theorem rows_nodup (banks books : List Entry) : ((rows banks books).map (·.2)).Nodup := by
  unfold rows
  rw [List.map_append, rowsOf_marks, rowsOf_marks, List.nodup_append]
  refine ⟨?_, ?_, ?_⟩
  · exact (List.nodup_range).map (f := fun i => (false, i)) fun a b h => by simpa using h
  · exact (List.nodup_range).map (f := fun i => (true, i)) fun a b h => by simpa using h
  · intro a ha b hb e
    obtain ⟨i, _, rfl⟩ := List.mem_map.mp ha
    obtain ⟨j, _, rfl⟩ := List.mem_map.mp hb
    cases e
theorem sorted_strict (banks books : List Entry) : (sortedRows banks books).Pairwise fun a b => rowLt a b = true := by
  have h1 : (sortedRows banks books).Pairwise fun a b => rowLe a b = true := List.pairwise_mergeSort (le := rowLe) (fun _ _ _ => rowLt_trans) rowLe_total _
  have h2 : ((sortedRows banks books).map (·.2)).Nodup := ((List.mergeSort_perm _ _).map _).nodup_iff.mpr (rows_nodup banks books)
  have h3 : (sortedRows banks books).Pairwise fun a b => a.2 ≠ b.2 := List.pairwise_map.mp h2
  exact (h1.and h3).imp fun ⟨x, y⟩ => rowLt_of x y
theorem sort_rows (rs : List Row) : dSorted [.list (rs.map eRow)] = some ((rs.mergeSort rowLe).map eRow) := by
  unfold dSorted
  have hok : sortOk (rs.map eRow) = true := by
    unfold sortOk
    simp only [Bool.and_eq_true, Bool.or_eq_true, List.all_eq_true, List.mem_map]
    refine ⟨⟨?_, .inl ?_⟩, ?_⟩
    · rintro x ⟨a, _, rfl⟩ y ⟨b, _, rfl⟩; exact alike_row a b
    · rintro x ⟨a, _, rfl⟩; rfl
    · rintro x ⟨a, _, rfl⟩; exact shal_of (depth_row a)
  simp only [hok, if_true]
  congr 1
  refine (PySem.W.sort_maps eRow fun a _ b _ => ?_).symm
  rw [PySem.W.dataLe_eq]
  simp only [id, cond_false, lt_row, rowLe]
theorem sorted_length (banks books : List Entry) : (sortedRows banks books).length = banks.length + books.length := by
  unfold sortedRows rows
  rw [(List.mergeSort_perm _ _).length_eq, List.length_append]
  simp [rowsOf]
theorem sorted_mem {banks books : List Entry} {r : Row} : r ∈ sortedRows banks books ↔ r ∈ rows banks books := (List.mergeSort_perm _ _).mem_iff
theorem row_mem {banks books : List Entry} {r : Row} (h : r ∈ rows banks books) : (if r.2.1 = true then books else banks)[r.2.2]?.map (·.1) = some r.1 := by
  unfold rows at h
  rcases List.mem_append.mp h with h | h
  · obtain ⟨i, hi, e⟩ := List.mem_mapIdx.mp h
    subst e
    simp [hi]
  · obtain ⟨i, hi, e⟩ := List.mem_mapIdx.mp h
    subst e
    simp [hi]
/-! ### groups, as the rows go by -/
def gStep (span : Int) (s : List (List Row) × Int) (r : Row) : List (List Row) × Int :=
  if s.1 = [] ∨ r.1 - s.2 > span then (s.1 ++ [[r]], r.1) else (s.1.dropLast ++ [(s.1.getLast?.getD []) ++ [r]], r.1)
def groupsR (span : Int) (rs : List Row) : List (List Row) := (rs.foldl (gStep span) ([], 0)).1
def eG (g : List Row) : PyData := .list (g.map fun r => eMark r.2)
/-- what holds of groups: no day in one is more than the span beyond the one ahead, from one to the next it is -/
structure Gaps (span : Int) (gs : List (List Row)) : Prop where
  ne : ∀ g, g ∈ gs → g ≠ []
  within : ∀ (g : List Row) (k : Nat) (r s : Row), g ∈ gs → g[k]? = some r → g[k + 1]? = some s → s.1 - r.1 ≤ span
  across : ∀ (a b : List (List Row)) (g : List Row) (r s : Row), gs = a ++ g :: b → a.flatten.getLast? = some r → g[0]? = some s → s.1 - r.1 > span
theorem gStep_inv {span : Int} {pre : List Row} {s : List (List Row) × Int} (r : Row) (h1 : s.1.flatten = pre) (h2 : Gaps span s.1) (h3 : ∀ q, pre.getLast? = some q → s.2 = q.1) :
    (gStep span s r).1.flatten = pre ++ [r] ∧ Gaps span (gStep span s r).1 ∧ (gStep span s r).2 = r.1 := by
  obtain ⟨gs, last⟩ := s
  subst h1
  unfold gStep
  simp only at h2 h3 ⊢
  by_cases hc : gs = [] ∨ r.1 - last > span
  · rw [if_pos hc]
    refine ⟨by simp, ⟨fun g hg => ?_, fun g k x y hg e1 e2 => ?_, fun a b g x y e e1 e2 => ?_⟩, rfl⟩
    · rcases List.mem_append.mp hg with hg | hg
      · exact h2.ne g hg
      · rw [List.mem_singleton.mp hg]; simp
    · rcases List.mem_append.mp hg with hg | hg
      · exact h2.within g k x y hg e1 e2
      · rw [List.mem_singleton.mp hg] at e2; simp at e2
    · rcases List.eq_nil_or_concat b with rfl | ⟨b', z, rfl⟩
      · have e' : gs = a ∧ [r] = g := by
          have := List.append_inj' (s₁ := gs) (s₂ := a) (t₁ := [[r]]) (t₂ := [g]) e rfl
          exact ⟨this.1, by simpa using this.2⟩
        obtain ⟨rfl, rfl⟩ := e'
        have ey : r = y := by simpa using e2
        subst ey
        rcases hc with rfl | hc
        · simp at e1
        · rw [h3 x e1] at hc; exact hc
      · have e' : gs = a ++ g :: b' := by
          have e2 : gs ++ [[r]] = (a ++ g :: b') ++ [z] := (show gs ++ [[r]] = a ++ g :: b'.concat z from e).trans (by simp)
          exact (List.append_inj' e2 rfl).1
        exact h2.across a b' g x y e' e1 e2
  · rw [if_neg hc]
    have hne : gs ≠ [] := fun z => hc (.inl z)
    obtain ⟨ini, g0, rfl⟩ : ∃ ini g0, gs = ini ++ [g0] := ⟨gs.dropLast, gs.getLast hne, (List.dropLast_concat_getLast hne).symm⟩
    simp only [List.getLast?_append, List.getLast?_singleton, Option.some_or, Option.getD_some, List.dropLast_concat]
    have hg0 : g0 ≠ [] := h2.ne g0 (by simp)
    have hlast : r.1 - last ≤ span := by
      by_cases z : r.1 - last > span
      · exact absurd (.inr z) hc
      · omega
    refine ⟨by simp, ⟨fun g hg => ?_, fun g k x y hg e1 e2 => ?_, fun a b g x y e e1 e2 => ?_⟩, trivial⟩
    · rcases List.mem_append.mp hg with hg | hg
      · exact h2.ne g (by simp [hg])
      · rw [List.mem_singleton.mp hg]; simp
    · rcases List.mem_append.mp hg with hg | hg
      · exact h2.within g k x y (by simp [hg]) e1 e2
      · rw [List.mem_singleton.mp hg] at e1 e2
        by_cases hk : k + 1 < g0.length
        · rw [List.getElem?_append_left hk] at e2
          rw [List.getElem?_append_left (by omega)] at e1
          exact h2.within g0 k x y (by simp) e1 e2
        · have hk2 : k + 1 = g0.length := by
            have := (List.getElem?_eq_some_iff.mp e2).1
            simp at this; omega
          have ey : r = y := by
            rw [List.getElem?_append_right (by omega), hk2, Nat.sub_self] at e2
            simpa using e2
          subst ey
          rw [List.getElem?_append_left (by omega)] at e1
          have ex : (ini ++ [g0]).flatten.getLast? = some x := by
            rw [List.flatten_append, List.flatten_singleton, List.getLast?_append]
            have : g0.getLast? = some x := by rw [List.getLast?_eq_getElem?, show g0.length - 1 = k by omega]; exact e1
            rw [this]; rfl
          rw [h3 x ex] at hlast; exact hlast
    · rcases List.eq_nil_or_concat b with rfl | ⟨b', z, rfl⟩
      · have e' : ini = a ∧ g0 ++ [r] = g := by
          have := List.append_inj' (s₁ := ini) (s₂ := a) (t₁ := [g0 ++ [r]]) (t₂ := [g]) e rfl
          exact ⟨this.1, by simpa using this.2⟩
        obtain ⟨rfl, rfl⟩ := e'
        have ey : g0[0]? = some y := by
          rw [List.getElem?_append_left (by cases g0 with | nil => exact absurd rfl hg0 | cons _ _ => simp)] at e2
          exact e2
        exact h2.across ini [] g0 x y rfl e1 ey
      · have e' : ini = a ++ g :: b' := by
          have e2 : ini ++ [g0 ++ [r]] = (a ++ g :: b') ++ [z] := (show ini ++ [g0 ++ [r]] = a ++ g :: b'.concat z from e).trans (by simp)
          exact (List.append_inj' e2 rfl).1
        exact h2.across a (b' ++ [g0]) g x y (by rw [e']; simp) e1 e2
theorem groups_fold {span : Int} : ∀ (post pre : List Row) (s : List (List Row) × Int), s.1.flatten = pre → Gaps span s.1 → (∀ q, pre.getLast? = some q → s.2 = q.1) →
    (post.foldl (gStep span) s).1.flatten = pre ++ post ∧ Gaps span (post.foldl (gStep span) s).1
  | [], pre, s, h1, h2, _ => ⟨by simpa using h1, h2⟩
  | r :: post, pre, s, h1, h2, h3 => by
    obtain ⟨i1, i2, i3⟩ := gStep_inv r h1 h2 h3
    have ih := groups_fold post (pre ++ [r]) (gStep span s r) i1 i2 fun q hq => by
      have : r = q := by simpa using hq
      rw [← this]; exact i3
    simpa using ih
theorem gaps_nil {span : Int} : Gaps span [] := ⟨fun g h => absurd h (by simp), fun g k r s h => absurd h (by simp), fun a b g r s e => by simp at e⟩
theorem groups_flat (span : Int) (rs : List Row) : (groupsR span rs).flatten = rs := by
  have := (groups_fold (span := span) rs [] ([], 0) rfl gaps_nil (fun q h => by simp at h)).1
  simpa [groupsR] using this
theorem groups_gaps (span : Int) (rs : List Row) : Gaps span (groupsR span rs) := (groups_fold (span := span) rs [] ([], 0) rfl gaps_nil (fun q h => by simp at h)).2
theorem flat_len {gs : List (List Row)} (h : ∀ g, g ∈ gs → g ≠ []) : gs.length ≤ gs.flatten.length := by
  induction gs with
  | nil => simp
  | cons g gs ih =>
    have h1 := ih fun x hx => h x (by simp [hx])
    have h2 : g ≠ [] := h g (by simp)
    have h3 : 0 < g.length := List.length_pos_iff.mpr h2
    simp only [List.length_cons, List.flatten_cons, List.length_append]
    omega
theorem num_map {α : Type} (enc : α → PyData) (xs : List α) : numbered (xs.map enc) = (xs.mapIdx fun i x => (i, x)).map fun p => .tuple [.int p.1, enc p.2] := by
  apply List.ext_getElem?
  intro i
  simp [numbered, List.getElem?_mapIdx]
  cases xs[i]? <;> rfl
end Dat
open PySem PySem.Spec PyProof.Rows L2
namespace Dat
section
variable {W : XK} {X : Cx} {e a b : Expr} {es : List Expr} {pos pos' p : Pos} {O O' OL : Os} {F F' : Fd} {L : Fl}
/-! ### list(range(n)) -/
def lrF (F : Fd) : Fl := fun ρ => match F ρ with
  | some (.int n) => if 0 ≤ n ∧ n ≤ 16777216 then some (upFrom 0 n.toNat) else none
  | _ => none
theorem lrF_some {ρ : Dv} {ds : List PyData} (h : lrF F ρ = some ds) : ∃ n, F ρ = some (.int n) ∧ 0 ≤ n ∧ n ≤ 16777216 ∧ ds = upFrom 0 n.toNat := by
  unfold lrF at h
  split at h
  · split at h
    · rename_i h1 h2
      cases h; exact ⟨_, h1, h2.1, h2.2, rfl⟩
    · cases h
  · cases h
theorem rg_dp {K : PySem.W.Frag} {G : Hp} {n : Int} : DpAll K G (rgV 0 n) (upFrom 0 n.toNat) := by
  unfold rgV upFrom
  rw [show n - 0 = n by omega]
  generalize List.range n.toNat = l
  induction l with
  | nil => exact .nil
  | cons i l ih => exact .cons (.int _) ih
theorem o_listRg {p1 p2 p3 : Pos} (hc : X.calm = true) (hg : Gl X "list") (hm : X.mg "list" = none) (hg2 : Gl X "range") (hm2 : X.mg "range" = none) (ha : PE X a (RB X.K O F))
    (n1 : starEach [a] X.env = (false, eval a X.env) :: starEach [] X.env := by rfl) (n2 : starEach [.Call (.Name "range" p1) [a] [] p2] X.env = (false, eval (.Call (.Name "range" p1) [a] [] p2) X.env) :: starEach [] X.env := by rfl) :
    PE X (.Call (.Name "list" p3) [.Call (.Name "range" p1) [a] [] p2] [] pos) (RO X.K O (lrF F)) :=
  pe_imp (pe_listRg hc hg hm (prg_1 hg2 hm2 ha n1) n2) fun σ H Q ⟨Γ, G, ρ, ds, R, ef, q⟩ => by
    obtain ⟨n, e1, h0, h1, rfl⟩ := lrF_some ef
    refine ⟨Γ, G, ρ, _, R, e1, fun v G' H' s bd => ⟨n, bd.int, RgOk.of_le (by omega) h1 (by omega) h0, fun c hc => ?_⟩⟩
    have hcH : H c = none := s.hh.free hc
    exact q c _ G' _ (s.trans (Stp.new s.gh hc)) hcH (s.gh.free hc) upd_same rg_dp
/-! ### x.append(y.pop(i)) -/
def appPopS (i j : Nat) (F : Fd) : Bs := fun ρ => match dvGet ρ i, dvGet ρ j, F ρ with
  | some (.list ds), some (.list es), some (.int n) => if ds.length < 16777216 ∧ 0 ≤ n ∧ n < 16777216 then match es[n.toNat]? with
      | some d => some (.nx ((ρ.set j (some (.list (es.eraseIdx n.toNat)))).set i (some (.list (ds ++ [d])))))
      | none => none
    else none
  | _, _, _ => none
theorem appPopS_some {i j : Nat} {ρ : Dv} {r : Res} (h : appPopS i j F ρ = some r) : ∃ ds es n d, dvGet ρ i = some (.list ds) ∧ dvGet ρ j = some (.list es) ∧ F ρ = some (.int n) ∧ ds.length < 16777216 ∧ 0 ≤ n ∧ n < 16777216 ∧ es[n.toNat]? = some d ∧
    r = .nx ((ρ.set j (some (.list (es.eraseIdx n.toNat)))).set i (some (.list (ds ++ [d])))) := by
  unfold appPopS at h
  split at h
  · rename_i ds es n e1 e2 e3
    split at h
    · rename_i hc
      split at h
      · cases h; exact ⟨ds, es, n, _, e1, e2, e3, hc.1, hc.2.1, hc.2.2, by assumption, rfl⟩
      · cases h
    · cases h
  · cases h
theorem Own.isLst {K : PySem.W.Frag} {G H : Hp} {v : V} {fp : List Addr} {ds : List PyData} (o : Own K G H .lst v fp (.list ds)) : ∃ p xs, v = .ref p ∧ fp = [p] ∧ H p = some (.lst xs) ∧ DpAll K G xs ds := by
  cases o with
  | lst hp da => exact ⟨_, _, rfl, rfl, hp, da⟩
theorem s_appPop {y z : Str} {pz apos cpos apos2 cpos2 : Pos} (i j : Nat) (hi : (i, Kd.lst) ∈ O) (hj : (j, Kd.lst) ∈ O) (hne : i ≠ j)
    (hb : PE X (.Call (.Attribute (.Name y pos') "append" apos) [.Call (.Attribute (.Name z pz) "pop" apos2) [e] [] cpos2] [] cpos) (tBM X.K "list" rAppend (tVar i) (tCons (tBM X.K "list" rPopAt (tVar j) (tCons (RB X.K O F) tNil)) tNil)))
    (hs : swapsWith (.Call (.Attribute (.Name y pos') "append" apos) [.Call (.Attribute (.Name z pz) "pop" apos2) [e] [] cpos2] [] cpos) none pos.line X.env = pure false := by rfl) :
    PS X (.Expr (.Call (.Attribute (.Name y pos') "append" apos) [.Call (.Attribute (.Name z pz) "pop" apos2) [e] [] cpos2] [] cpos) pos) (RS X.K W O O OL (appPopS i j F)) := ps_imp (ps_expr hb hs) fun D σ H ⟨Γ, G, ρ, r, R, er, f⟩ => by
  obtain ⟨ds, es, n, d, e1, e2, e3, hl, h0, h1, hd, rfl⟩ := appPopS_some er
  have e1' := dvGet_some e1
  have e2' := dvGet_some e2
  obtain ⟨w, fp, f2, o, nn, _⟩ := R.change hi e1'
  obtain ⟨w2, fp2, g2, o2, nn2, _⟩ := R.change hj e2'
  obtain ⟨p, xs, rfl, rfl, hp, da⟩ := o.isLst
  obtain ⟨p2, xs2, rfl, rfl, hp2, da2⟩ := o2.isLst
  refine ⟨_, f2, .inl ⟨rfl, _, SqL.of hp⟩, _, g2, .inl ⟨rfl, _, SqL.of hp2⟩, Γ, G, ρ, _, R, e3, fun v G' H' s dv => ?_⟩
  have R1 := R.stp s
  obtain ⟨w2', fp2', g2', o2', nn2', ch2⟩ := R1.change hj e2'
  rw [g2] at g2'; cases g2'
  obtain ⟨p2', xs2', er2, rfl, hp2', da2'⟩ := o2'.isLst
  cases er2
  obtain ⟨vy, hv1, hv2⟩ := da2'.get hd
  refine ⟨p2, xs2', n, n.toNat, vy, rfl, by rw [dv.int], hp2', by omega, by omega, ?_, hv1, ?_⟩
  · unfold seqIndex?
    have hlt : n.toNat < xs2'.length := (List.getElem?_eq_some_iff.mp hv1).1
    simp only [show ¬ n < 0 by omega, if_false]
    rw [if_pos (by simp; omega)]
  · have R2 := ch2 G' H' (upd H' p2 (.lst (xs2'.eraseIdx n.toNat))) [p2] _ (Stp.refl R1.gh) (fun a ha => (nn2' a ha).2) (.lst upd_same (da2'.eraseIdx n.toNat)) (fun a ha _ => upd_ne fun z => ha (by simp [z])) fun a ha => .inl ha
    have e1'' : (ρ.set j (some (.list (es.eraseIdx n.toNat))))[i]? = some (some (.list ds)) := by rw [List.getElem?_set_ne (Ne.symm hne)]; exact e1'
    obtain ⟨w', fp', f2', o', nn', ch⟩ := R2.change hi e1''
    rw [f2] at f2'; cases f2'
    obtain ⟨p', xs', er3, rfl, hp', da'⟩ := o'.isLst
    cases er3
    refine ⟨p, xs', vy, rfl, rfl, hp', by rw [da'.length, line_eq]; exact hl, ?_⟩
    refine f σ G' _ (ch G' _ _ [p] _ (Stp.refl R2.gh) (fun a ha => (nn' a ha).2) (.lst upd_same (da'.append (.cons hv2 .nil))) (fun a ha _ => upd_ne fun z => ha (by simp [z])) fun a ha => .inl ha)
end
end Dat
open PySem PySem.Spec PyProof.Rows L2
namespace Dat
def top (i : Nat) : Stmt := PySem.Challenge.pw_tickoff_k03_fits.main.body.getD i (.Pass ⟨0, 0, 0, 0⟩)
section
variable {P : Program} {w : World} {K : PySem.W.Frag} {mg : Str → Option Value} {base : Heap}
abbrev s_is_shaped : Stmt := top 2
abbrev N_is_shaped : List Str := ["places", "count", "k"]
theorem sc_is_shaped : FnScope N_is_shaped ["places", "count"] (defScope s_is_shaped) := ⟨rfl, rfl, rfl, by decide +kernel, rfl, by decide +kernel, by decide +kernel⟩
def B_is_shaped : Bs := (seqS (ifS (notT (asB (chF dLe dLe (cF (.int 1)) (fL dLen (consA (vF 0) nilA)) (cF (.int 3))))) (retS (cF (.bool false))) nopS) (seqS (forS (fL dRange (exN 1 (consA (fL dLen (consA (vF 0) nilA)) nilA))) (tgN 2) (ifS (orT (notT (asB (chF dLe dLt (cF (.int 0)) (f2 dIx (vF 0) (vF 2)) (vF 1)))) (andT (asB (f2 dGt (vF 2) (cF (.int 0)))) (asB (f2 dLe (f2 dIx (vF 0) (vF 2)) (f2 dIx (vF 0) (f2 dSub (vF 2) (cF (.int 1)))))))) (retS (cF (.bool false))) nopS)) (retS (cF (.bool true)))))
def S_is_shaped : List PyData → Option PyData := runF 3 2 B_is_shaped
theorem kd_is_shaped {f : Addr} {fd : FuncData} (h : Here K mg "is_shaped" s_is_shaped ["places", "count"] f fd) (m_len : mg "len" = none) (m_range : mg "range" = none) (g_MOST : ∃ t, mg "MOST" = some (.int 3 t))  : Kn P w K mg base "is_shaped" 1 ["places", "count"] S_is_shaped :=
  kd_of h (fn_d h.fn sc_is_shaped rfl rfl (by decide) fun cdv A outer s H E hr => ⟨[], [], (s_cons (s_if (t_not (t_chain op_dLe op_dLe (d_b d_int) (d_b (d_callB c_len (by rfl) m_len (by decide +kernel) (ab_cons (b_var 0 (pv 0)) ab_nil))) (d_b (d_glob (by rfl) g_MOST)))) (s_one (s_ret d_bl)) s_nil) (s_cons (s_for PassesOwn.never rfl (i_range1 (by rfl) m_range (ab_cons (d_b (d_callB c_len (by rfl) m_len (by decide +kernel) (ab_cons (b_var 0 (pv 0)) ab_nil))) ab_nil)) (tg_n rfl) (pg_name (i := 2) sc_is_shaped.nd rfl (by first | exact Or.inl rfl | exact Or.inr rfl)) (s_one (s_if (t_w (w_or (t_not (t_chain op_dLe (op_dLt (hu200 hr)) (d_b d_int) (d_b (d_ix (b_var 0 (pv 0)) (b_var 2 (pv 2)) (fun _ _ => rfl))) (b_var 1 (pv 1)))) (w_or1 (t_w (w_and (t_cmp op_dGt (b_var 2 (pv 2)) (d_b d_int) (by rfl)) (w_and1 (t_cmp op_dLe (d_b (d_ix (b_var 0 (pv 0)) (b_var 2 (pv 2)) (fun _ _ => rfl))) (d_b (d_ix (b_var 0 (pv 0)) (d_b (d_op op_dSub (b_var 2 (pv 2)) (d_b d_int))) (fun _ _ => rfl))) (by rfl)))))))) (s_one (s_ret d_bl)) s_nil))) (s_one (s_ret d_bl))))⟩)
abbrev s_fits : Stmt := top 3
abbrev N_fits : List Str := ["banks", "books", "span", "match", "ones", "place", "others", "entry", "days"]
theorem sc_fits : FnScope N_fits ["banks", "books", "span", "match"] (defScope s_fits) := ⟨rfl, rfl, rfl, by decide +kernel, rfl, by decide +kernel, by decide +kernel⟩
def T_fits_6 : Bs := (retS (f2 dLe (f2 dSub (fL dMax (consA (vF 8) nilA)) (fL dMin (consA (vF 8) nilA))) (vF 2)))
def T_fits_5 : Bs := (seqS (setS 8 (lstF (lcF (seqA (f2 dAdd (vF 4) (vF 6))) [7] (tgN 7) yesT (f2 dIx (vF 7) (cF (.int 0)))))) T_fits_6)
def T_fits_4 : Bs := (seqS (ifS (asB (f2 dNe (fL dSum (consA (lstF (lcF (seqA (vF 4)) [7] (tgN 7) yesT (f2 dIx (vF 7) (cF (.int 1))))) nilA)) (fL dSum (consA (lstF (lcF (seqA (vF 6)) [7] (tgN 7) yesT (f2 dIx (vF 7) (cF (.int 1))))) nilA)))) (retS (cF (.bool false))) nopS) T_fits_5)
def T_fits_3 : Bs := (seqS (setS 6 (lstF (lcF (seqA (f2 dIx (vF 3) (cF (.int 1)))) [5] (tgN 5) yesT (f2 dIx (vF 1) (vF 5))))) T_fits_4)
def T_fits_2 : Bs := (seqS (setS 4 (lstF (lcF (seqA (f2 dIx (vF 3) (cF (.int 0)))) [5] (tgN 5) yesT (f2 dIx (vF 0) (vF 5))))) T_fits_3)
def T_fits_1 : Bs := (seqS (ifS (andT (asB (f2 dGt (fL dLen (consA (f2 dIx (vF 3) (cF (.int 0))) nilA)) (cF (.int 1)))) (asB (f2 dGt (fL dLen (consA (f2 dIx (vF 3) (cF (.int 1))) nilA)) (cF (.int 1))))) (retS (cF (.bool false))) nopS) T_fits_2)
def B_fits : Bs := (seqS (ifS (orT (notT (asB (fL S_is_shaped (consA (f2 dIx (vF 3) (cF (.int 0))) (consA (fL dLen (consA (vF 0) nilA)) nilA))))) (notT (asB (fL S_is_shaped (consA (f2 dIx (vF 3) (cF (.int 1))) (consA (fL dLen (consA (vF 1) nilA)) nilA)))))) (retS (cF (.bool false))) nopS) T_fits_1)
def S_fits : List PyData → Option PyData := runF 9 4 B_fits
theorem kd_fits {f : Addr} {fd : FuncData} (h : Here K mg "fits" s_fits ["banks", "books", "span", "match"] f fd) (m_len : mg "len" = none) (m_sum : mg "sum" = none) (m_max : mg "max" = none) (m_min : mg "min" = none) (c_is_shaped : Kn P w K mg base "is_shaped" 1 ["places", "count"] S_is_shaped) : Kn P w K mg base "fits" 2 ["banks", "books", "span", "match"] S_fits :=
  kd_of h (fn_d h.fn sc_fits rfl rfl (by decide) fun cdv A outer s H E hr => ⟨[], [], (s_cons (s_if (t_w (w_or (t_not (t_val (d_callK c_is_shaped hr (by decide) pass0 (by rfl) (a_cons (d_ix (b_var 3 (pv 3)) (d_b d_int) (fun _ _ => rfl)) (a_cons (d_callB c_len (by rfl) m_len (by decide +kernel) (ab_cons (b_var 0 (pv 0)) ab_nil)) a_nil))))) (w_or1 (t_not (t_val (d_callK c_is_shaped hr (by decide) pass0 (by rfl) (a_cons (d_ix (b_var 3 (pv 3)) (d_b d_int) (fun _ _ => rfl)) (a_cons (d_callB c_len (by rfl) m_len (by decide +kernel) (ab_cons (b_var 1 (pv 1)) ab_nil)) a_nil)))))))) (s_one (s_ret d_bl)) s_nil) (s_cons (s_if (t_w (w_and (t_cmp op_dGt (d_b (d_callB c_len (by rfl) m_len (by decide +kernel) (ab_cons (d_b (d_ix (b_var 3 (pv 3)) (d_b d_int) (fun _ _ => rfl))) ab_nil))) (d_b d_int) (by rfl)) (w_and1 (t_cmp op_dGt (d_b (d_callB c_len (by rfl) m_len (by decide +kernel) (ab_cons (d_b (d_ix (b_var 3 (pv 3)) (d_b d_int) (fun _ _ => rfl))) ab_nil))) (d_b d_int) (by rfl))))) (s_one (s_ret d_bl)) s_nil) (s_cons (s_setLc (i := 4) (own := [("place", 5)]) rfl sc_fits.nd rfl rfl rfl (sw_true rfl rfl rfl (by decide +kernel)) (i_seq (d_ix (b_var 3 (pv 3)) (d_b d_int) (fun _ _ => rfl))) (blkOk_by (own := [("place", 5)]) (N := N_fits) (sc := defScope s_fits) (by decide +kernel)) (tg_n rfl) (by decide) rfl (fun _ _ _ _ _ => (pg_name (i := 5) sc_fits.nd rfl (by first | exact Or.inl rfl | exact Or.inr rfl))) (fun _ _ _ _ _ => ts_nil) (fun _ _ _ _ _ => (d_ix (b_var 0 (pv 0)) (b_var 5 (pv 5)) (fun _ _ => rfl)))) (s_cons (s_setLc (i := 6) (own := [("place", 5)]) rfl sc_fits.nd rfl rfl rfl (sw_true rfl rfl rfl (by decide +kernel)) (i_seq (d_ix (b_var 3 (pv 3)) (d_b d_int) (fun _ _ => rfl))) (blkOk_by (own := [("place", 5)]) (N := N_fits) (sc := defScope s_fits) (by decide +kernel)) (tg_n rfl) (by decide) rfl (fun _ _ _ _ _ => (pg_name (i := 5) sc_fits.nd rfl (by first | exact Or.inl rfl | exact Or.inr rfl))) (fun _ _ _ _ _ => ts_nil) (fun _ _ _ _ _ => (d_ix (b_var 1 (pv 1)) (b_var 5 (pv 5)) (fun _ _ => rfl)))) (s_cons (s_if (t_cmp (op_dNe (hu200 hr)) (d_b (d_callB (c_sum rfl) (by rfl) m_sum (by decide +kernel) (ab_cons (d_b (o_d (o_lc (own := [("entry", 7)]) rfl sc_fits.nd (i_seq (d_var 4 (pv 4))) (blkOk_by (own := [("entry", 7)]) (N := N_fits) (sc := defScope s_fits) (by decide +kernel)) (tg_n rfl) (by decide) rfl (fun _ _ _ _ _ => (pg_name (i := 7) sc_fits.nd rfl (by first | exact Or.inl rfl | exact Or.inr rfl))) (fun _ _ _ _ _ => ts_nil) (fun _ _ _ _ _ => (d_ix (b_var 7 (pv 7)) (d_b d_int) (fun _ _ => rfl)))))) ab_nil))) (d_b (d_callB (c_sum rfl) (by rfl) m_sum (by decide +kernel) (ab_cons (d_b (o_d (o_lc (own := [("entry", 7)]) rfl sc_fits.nd (i_seq (d_var 6 (pv 6))) (blkOk_by (own := [("entry", 7)]) (N := N_fits) (sc := defScope s_fits) (by decide +kernel)) (tg_n rfl) (by decide) rfl (fun _ _ _ _ _ => (pg_name (i := 7) sc_fits.nd rfl (by first | exact Or.inl rfl | exact Or.inr rfl))) (fun _ _ _ _ _ => ts_nil) (fun _ _ _ _ _ => (d_ix (b_var 7 (pv 7)) (d_b d_int) (fun _ _ => rfl)))))) ab_nil))) (by rfl)) (s_one (s_ret d_bl)) s_nil) (s_cons (s_setLc (i := 8) (own := [("entry", 7)]) rfl sc_fits.nd rfl rfl rfl (sw_true rfl rfl rfl (by decide +kernel)) (i_seq (d_op op_dAdd (b_var 4 (pv 4)) (b_var 6 (pv 6)))) (blkOk_by (own := [("entry", 7)]) (N := N_fits) (sc := defScope s_fits) (by decide +kernel)) (tg_n rfl) (by decide) rfl (fun _ _ _ _ _ => (pg_name (i := 7) sc_fits.nd rfl (by first | exact Or.inl rfl | exact Or.inr rfl))) (fun _ _ _ _ _ => ts_nil) (fun _ _ _ _ _ => (d_ix (b_var 7 (pv 7)) (d_b d_int) (fun _ _ => rfl)))) (s_one (s_ret (d_cmp op_dLe (d_b (d_op op_dSub (d_b (d_callB (c_max rfl) (by rfl) m_max (by decide +kernel) (ab_cons (b_var 8 (pv 8)) ab_nil))) (d_b (d_callB (c_min rfl) (by rfl) m_min (by decide +kernel) (ab_cons (b_var 8 (pv 8)) ab_nil))))) (b_var 2 (pv 2)) (by rfl))))))))))⟩)
abbrev s_marks_of : Stmt := top 4
abbrev N_marks_of : List Str := ["match", "place"]
theorem sc_marks_of : FnScope N_marks_of ["match"] (defScope s_marks_of) := ⟨rfl, rfl, rfl, by decide +kernel, rfl, by decide +kernel, by decide +kernel⟩
def B_marks_of : Bs := (retS (f2 dAdd (lstF (lcF (seqA (f2 dIx (vF 0) (cF (.int 0)))) [1] (tgN 1) yesT (tupF (consA (cF (.str "bank")) (consA (vF 1) nilA))))) (lstF (lcF (seqA (f2 dIx (vF 0) (cF (.int 1)))) [1] (tgN 1) yesT (tupF (consA (cF (.str "book")) (consA (vF 1) nilA)))))))
def S_marks_of : List PyData → Option PyData := runF 2 1 B_marks_of
theorem kd_marks_of {f : Addr} {fd : FuncData} (h : Here K mg "marks_of" s_marks_of ["match"] f fd)   : Kn P w K mg base "marks_of" 1 ["match"] S_marks_of :=
  kd_of h (fn_d h.fn sc_marks_of rfl rfl (by decide) fun cdv A outer s H E hr => ⟨[], [], (s_one (s_ret (d_op op_dAdd (d_b (o_d (o_lc (own := [("place", 1)]) rfl sc_marks_of.nd (i_seq (d_ix (b_var 0 (pv 0)) (d_b d_int) (fun _ _ => rfl))) (blkOk_by (own := [("place", 1)]) (N := N_marks_of) (sc := defScope s_marks_of) (by decide +kernel)) (tg_n rfl) (by decide) rfl (fun _ _ _ _ _ => (pg_name (i := 1) sc_marks_of.nd rfl (by first | exact Or.inl rfl | exact Or.inr rfl))) (fun _ _ _ _ _ => ts_nil) (fun _ _ _ _ _ => (d_tup (a_cons d_str (a_cons (d_var 1 (pv 1)) a_nil))))))) (d_b (o_d (o_lc (own := [("place", 1)]) rfl sc_marks_of.nd (i_seq (d_ix (b_var 0 (pv 0)) (d_b d_int) (fun _ _ => rfl))) (blkOk_by (own := [("place", 1)]) (N := N_marks_of) (sc := defScope s_marks_of) (by decide +kernel)) (tg_n rfl) (by decide) rfl (fun _ _ _ _ _ => (pg_name (i := 1) sc_marks_of.nd rfl (by first | exact Or.inl rfl | exact Or.inr rfl))) (fun _ _ _ _ _ => ts_nil) (fun _ _ _ _ _ => (d_tup (a_cons d_str (a_cons (d_var 1 (pv 1)) a_nil))))))))))⟩)
abbrev s__law_cell_at : Stmt := top 6
abbrev N__law_cell_at : List Str := ["_law_script", "_law_k"]
theorem sc__law_cell_at : FnScope N__law_cell_at ["_law_script", "_law_k"] (defScope s__law_cell_at) := ⟨rfl, rfl, rfl, by decide +kernel, rfl, by decide +kernel, by decide +kernel⟩
def B__law_cell_at : Bs := (seqS (ifS (asB (f2 dLt (vF 1) (fL dLen (consA (vF 0) nilA)))) (retS (f2 dIx (vF 0) (vF 1))) nopS) (retS (cF (.int 0))))
def S__law_cell_at : List PyData → Option PyData := runF 2 2 B__law_cell_at
theorem kd__law_cell_at {f : Addr} {fd : FuncData} (h : Here K mg "_law_cell_at" s__law_cell_at ["_law_script", "_law_k"] f fd) (m_len : mg "len" = none)  : Kn P w K mg base "_law_cell_at" 1 ["_law_script", "_law_k"] S__law_cell_at :=
  kd_of h (fn_d h.fn sc__law_cell_at rfl rfl (by decide) fun cdv A outer s H E hr => ⟨[], [], (s_cons (s_if (t_cmp (op_dLt (hu200 hr)) (b_var 1 (pv 1)) (d_b (d_callB c_len (by rfl) m_len (by decide +kernel) (ab_cons (b_var 0 (pv 0)) ab_nil))) (by rfl)) (s_one (s_ret (d_ix (b_var 0 (pv 0)) (b_var 1 (pv 1)) (fun _ _ => rfl)))) s_nil) (s_one (s_ret d_int)))⟩)
abbrev s__law_entry : Stmt := top 7
abbrev N__law_entry : List Str := ["_law_cell", "_law_far", "_law_scale", "_law_day"]
theorem sc__law_entry : FnScope N__law_entry ["_law_cell", "_law_far", "_law_scale"] (defScope s__law_entry) := ⟨rfl, rfl, rfl, by decide +kernel, rfl, by decide +kernel, by decide +kernel⟩
def B__law_entry : Bs := (seqS (setS 3 (f2 dMod (vF 0) (cF (.int 6)))) (seqS (ifS (asB (vF 1)) (setS 3 (f2 dMod (f2 dMul (f2 dAdd (cF (.int 5000)) (f2 dMod (vF 0) (cF (.int 40)))) (f2 dAdd (cF (.int 1)) (f2 dMod (f2 dDiv (vF 0) (cF (.int 240))) (cF (.int 2))))) (cF (.int 10000)))) nopS) (retS (tupF (consA (vF 3) (consA (f2 dMul (f2 dIx (lstF (few (consA (cF (.int 1)) (consA (cF (.int 2)) (consA (cF (.int 3)) (consA (f1 dNeg (cF (.int 1))) (consA (f1 dNeg (cF (.int 2))) (consA (f1 dNeg (cF (.int 3))) nilA)))))))) (f2 dMod (f2 dDiv (vF 0) (cF (.int 6))) (cF (.int 6)))) (vF 2)) nilA))))))
def S__law_entry : List PyData → Option PyData := runF 4 3 B__law_entry
theorem kd__law_entry {f : Addr} {fd : FuncData} (h : Here K mg "_law_entry" s__law_entry ["_law_cell", "_law_far", "_law_scale"] f fd)   : Kn P w K mg base "_law_entry" 1 ["_law_cell", "_law_far", "_law_scale"] S__law_entry :=
  kd_of h (fn_d h.fn sc__law_entry rfl rfl (by decide) fun cdv A outer s H E hr => ⟨[], [], (s_cons (s_set (i := 3) sc__law_entry.nd rfl (by first | exact Or.inl rfl | exact Or.inr rfl) rfl (d_op op_dMod (b_var 0 (pv 0)) (d_b d_int))) (s_cons (s_if (t_val (d_var 1 (pv 1))) (s_one (s_set (i := 3) sc__law_entry.nd rfl (by first | exact Or.inl rfl | exact Or.inr rfl) rfl (d_op op_dMod (d_b (d_op op_dMul (d_b (d_op op_dAdd (d_b d_int) (d_b (d_op op_dMod (b_var 0 (pv 0)) (d_b d_int))))) (d_b (d_op op_dAdd (d_b d_int) (d_b (d_op op_dMod (d_b (d_op op_dDiv (b_var 0 (pv 0)) (d_b d_int))) (d_b d_int))))))) (d_b d_int)))) s_nil) (s_one (s_ret (d_tup (a_cons (d_var 3 (pv 3)) (a_cons (d_op op_dMul (d_b (d_ix (d_b (o_d (o_lst (a_cons d_int (a_cons d_int (a_cons d_int (a_cons (d_neg (d_b d_int)) (a_cons (d_neg (d_b d_int)) (a_cons (d_neg (d_b d_int)) a_nil))))))))) (d_b (d_op op_dMod (d_b (d_op op_dDiv (b_var 0 (pv 0)) (d_b d_int))) (d_b d_int))) (fun _ _ => rfl))) (b_var 2 (pv 2))) a_nil)))))))⟩)
abbrev s__law_places : Stmt := top 8
abbrev N__law_places : List Str := ["_law_cell", "_law_size", "_law_count", "_law_left", "_law_places_here", "_law_k"]
theorem sc__law_places : FnScope N__law_places ["_law_cell", "_law_size", "_law_count"] (defScope s__law_places) := ⟨rfl, rfl, rfl, by decide +kernel, rfl, by decide +kernel, by decide +kernel⟩
def B__law_places : Bs := (seqS (setO 3 (lrF (vF 1))) (seqS (setO 4 (few nilA)) (seqS (forS (fL dRange (exN 1 (consA (fL dMin (consA (vF 2) (consA (vF 1) nilA))) nilA))) (tgN 5) (seqS (appPopS 4 3 (f2 dMod (vF 0) (fL dLen (consA (vF 3) nilA)))) (setS 0 (f2 dDiv (vF 0) (cF (.int 7)))))) (retS (lstF (fL dSorted (consA (vF 4) nilA)))))))
def S__law_places : List PyData → Option PyData := runF 6 3 B__law_places
theorem kd__law_places {f : Addr} {fd : FuncData} (h : Here K mg "_law_places" s__law_places ["_law_cell", "_law_size", "_law_count"] f fd) (m_list : mg "list" = none) (m_range : mg "range" = none) (m_min : mg "min" = none) (m_len : mg "len" = none) (m_sorted : mg "sorted" = none)  : Kn P w K mg base "_law_places" 1 ["_law_cell", "_law_size", "_law_count"] S__law_places :=
  kd_of h (fn_d h.fn sc__law_places rfl rfl (by decide) fun cdv A outer s H E hr => ⟨[(4, .lst), (3, .lst)], [], (s_cons (s_setO (i := 3) sc__law_places.nd rfl (by first | exact Or.inl rfl | exact Or.inr rfl) rfl (O' := [(3, .lst)]) rfl (o_listRg rfl (by rfl) m_list (by rfl) m_range (b_var 1 (pv 1)))) (s_cons (s_setO (i := 4) sc__law_places.nd rfl (by first | exact Or.inl rfl | exact Or.inr rfl) rfl (O' := [(4, .lst), (3, .lst)]) rfl (o_lst a_nil)) (s_cons (s_for PassesOwn.never rfl (i_range1 (by rfl) m_range (ab_cons (d_b (d_callB (c_min rfl) (by rfl) m_min (by decide +kernel) (ab_cons (b_var 2 (pv 2)) (ab_cons (b_var 1 (pv 1)) ab_nil)))) ab_nil)) (tg_n rfl) (pg_name (i := 5) sc__law_places.nd rfl (by first | exact Or.inl rfl | exact Or.inr rfl)) (s_cons (s_appPop 4 3 (by simp) (by simp) (by decide) (pe_bm PySem.F.plainAttrs_list PySem.F.slot_list_append PySem.F.type_list_append mt_append (pv 4) (pa_cons (pe_bm PySem.F.plainAttrs_list PySem.F.slot_list_pop PySem.F.type_list_pop mt_popAt (pv 3) (pa_cons (d_b (d_op op_dMod (b_var 0 (pv 0)) (d_b (d_callB c_len (by rfl) m_len (by decide +kernel) (ab_cons (b_var 3 (pv 3)) ab_nil))))) pa_nil)) pa_nil))) (s_one (s_set (i := 0) sc__law_places.nd rfl (by first | exact Or.inl rfl | exact Or.inr rfl) rfl (d_op op_dDiv (b_var 0 (pv 0)) (d_b d_int)))))) (s_one (s_ret (o_d (o_callB (c_sorted (hu200 hr)) (by rfl) m_sorted (by decide +kernel) (ab_cons (b_var 4 (pv 4)) ab_nil))))))))⟩)
abbrev s__law_bent : Stmt := top 9
abbrev N__law_bent : List Str := ["_law_places_here", "_law_way", "_law_size"]
theorem sc__law_bent : FnScope N__law_bent ["_law_places_here", "_law_way", "_law_size"] (defScope s__law_bent) := ⟨rfl, rfl, rfl, by decide +kernel, rfl, by decide +kernel, by decide +kernel⟩
def B__law_bent : Bs := (seqS (ifS (andT (asB (f2 dEq (vF 1) (cF (.int 1)))) (asB (f2 dGt (fL dLen (consA (vF 0) nilA)) (cF (.int 0))))) (retS (lstF (fL dSorted (consA (f2 dAdd (vF 0) (slF dSl (vF 0) noP (someP (cF (.int 1))))) nilA)))) nopS) (seqS (ifS (andT (asB (f2 dEq (vF 1) (cF (.int 2)))) (asB (f2 dGt (fL dLen (consA (vF 0) nilA)) (cF (.int 1))))) (retS (f2 dAdd (slF dSl (vF 0) (someP (cF (.int 1))) noP) (slF dSl (vF 0) noP (someP (cF (.int 1)))))) nopS) (seqS (ifS (asB (f2 dEq (vF 1) (cF (.int 3)))) (retS (f2 dAdd (vF 0) (lstF (few (consA (vF 2) nilA))))) nopS) (seqS (ifS (asB (f2 dEq (vF 1) (cF (.int 4)))) (retS (f2 dAdd (lstF (few (consA (f1 dNeg (cF (.int 1))) nilA))) (vF 0))) nopS) (retS (vF 0))))))
def S__law_bent : List PyData → Option PyData := runF 3 3 B__law_bent
theorem kd__law_bent {f : Addr} {fd : FuncData} (h : Here K mg "_law_bent" s__law_bent ["_law_places_here", "_law_way", "_law_size"] f fd) (m_len : mg "len" = none) (m_sorted : mg "sorted" = none)  : Kn P w K mg base "_law_bent" 1 ["_law_places_here", "_law_way", "_law_size"] S__law_bent :=
  kd_of h (fn_d h.fn sc__law_bent rfl rfl (by decide) fun cdv A outer s H E hr => ⟨[], [], (s_cons (s_if (t_w (w_and (t_cmp (op_dEq (hu200 hr)) (b_var 1 (pv 1)) (d_b d_int) (by rfl)) (w_and1 (t_cmp op_dGt (d_b (d_callB c_len (by rfl) m_len (by decide +kernel) (ab_cons (b_var 0 (pv 0)) ab_nil))) (d_b d_int) (by rfl))))) (s_one (s_ret (o_d (o_callB (c_sorted (hu200 hr)) (by rfl) m_sorted (by decide +kernel) (ab_cons (d_b (d_op op_dAdd (b_var 0 (pv 0)) (d_b (d_sl (b_var 0 (pv 0)) p_none (p_some (d_b d_int)))))) ab_nil))))) s_nil) (s_cons (s_if (t_w (w_and (t_cmp (op_dEq (hu200 hr)) (b_var 1 (pv 1)) (d_b d_int) (by rfl)) (w_and1 (t_cmp op_dGt (d_b (d_callB c_len (by rfl) m_len (by decide +kernel) (ab_cons (b_var 0 (pv 0)) ab_nil))) (d_b d_int) (by rfl))))) (s_one (s_ret (d_op op_dAdd (d_b (d_sl (b_var 0 (pv 0)) (p_some (d_b d_int)) p_none)) (d_b (d_sl (b_var 0 (pv 0)) p_none (p_some (d_b d_int))))))) s_nil) (s_cons (s_if (t_cmp (op_dEq (hu200 hr)) (b_var 1 (pv 1)) (d_b d_int) (by rfl)) (s_one (s_ret (d_op op_dAdd (b_var 0 (pv 0)) (d_b (o_d (o_lst (a_cons (d_var 2 (pv 2)) a_nil))))))) s_nil) (s_cons (s_if (t_cmp (op_dEq (hu200 hr)) (b_var 1 (pv 1)) (d_b d_int) (by rfl)) (s_one (s_ret (d_op op_dAdd (d_b (o_d (o_lst (a_cons (d_neg (d_b d_int)) a_nil)))) (b_var 0 (pv 0))))) s_nil) (s_one (s_ret (d_var 0 (pv 0))))))))⟩)
abbrev s__law_shaped : Stmt := top 10
abbrev N__law_shaped : List Str := ["_law_places_here", "_law_size", "_law_k"]
theorem sc__law_shaped : FnScope N__law_shaped ["_law_places_here", "_law_size"] (defScope s__law_shaped) := ⟨rfl, rfl, rfl, by decide +kernel, rfl, by decide +kernel, by decide +kernel⟩
def B__law_shaped : Bs := (seqS (ifS (notT (asB (chF dLe dLe (cF (.int 1)) (fL dLen (consA (vF 0) nilA)) (cF (.int 3))))) (retS (cF (.bool false))) nopS) (seqS (forS (fL dRange (exN 1 (consA (fL dLen (consA (vF 0) nilA)) nilA))) (tgN 2) (ifS (orT (notT (asB (chF dLe dLt (cF (.int 0)) (f2 dIx (vF 0) (vF 2)) (vF 1)))) (andT (asB (f2 dGt (vF 2) (cF (.int 0)))) (asB (f2 dLe (f2 dIx (vF 0) (vF 2)) (f2 dIx (vF 0) (f2 dSub (vF 2) (cF (.int 1)))))))) (retS (cF (.bool false))) nopS)) (retS (cF (.bool true)))))
def S__law_shaped : List PyData → Option PyData := runF 3 2 B__law_shaped
theorem kd__law_shaped {f : Addr} {fd : FuncData} (h : Here K mg "_law_shaped" s__law_shaped ["_law_places_here", "_law_size"] f fd) (m_len : mg "len" = none) (m_range : mg "range" = none)  : Kn P w K mg base "_law_shaped" 1 ["_law_places_here", "_law_size"] S__law_shaped :=
  kd_of h (fn_d h.fn sc__law_shaped rfl rfl (by decide) fun cdv A outer s H E hr => ⟨[], [], (s_cons (s_if (t_not (t_chain op_dLe op_dLe (d_b d_int) (d_b (d_callB c_len (by rfl) m_len (by decide +kernel) (ab_cons (b_var 0 (pv 0)) ab_nil))) (d_b d_int))) (s_one (s_ret d_bl)) s_nil) (s_cons (s_for PassesOwn.never rfl (i_range1 (by rfl) m_range (ab_cons (d_b (d_callB c_len (by rfl) m_len (by decide +kernel) (ab_cons (b_var 0 (pv 0)) ab_nil))) ab_nil)) (tg_n rfl) (pg_name (i := 2) sc__law_shaped.nd rfl (by first | exact Or.inl rfl | exact Or.inr rfl)) (s_one (s_if (t_w (w_or (t_not (t_chain op_dLe (op_dLt (hu200 hr)) (d_b d_int) (d_b (d_ix (b_var 0 (pv 0)) (b_var 2 (pv 2)) (fun _ _ => rfl))) (b_var 1 (pv 1)))) (w_or1 (t_w (w_and (t_cmp op_dGt (b_var 2 (pv 2)) (d_b d_int) (by rfl)) (w_and1 (t_cmp op_dLe (d_b (d_ix (b_var 0 (pv 0)) (b_var 2 (pv 2)) (fun _ _ => rfl))) (d_b (d_ix (b_var 0 (pv 0)) (d_b (d_op op_dSub (b_var 2 (pv 2)) (d_b d_int))) (fun _ _ => rfl))) (by rfl)))))))) (s_one (s_ret d_bl)) s_nil))) (s_one (s_ret d_bl))))⟩)
abbrev s__law_due : Stmt := top 11
abbrev N__law_due : List Str := ["_law_banks", "_law_books", "_law_span", "_law_match", "_law_days", "_law_place", "_law_total"]
theorem sc__law_due : FnScope N__law_due ["_law_banks", "_law_books", "_law_span", "_law_match"] (defScope s__law_due) := ⟨rfl, rfl, rfl, by decide +kernel, rfl, by decide +kernel, by decide +kernel⟩
def B__law_due : Bs := (seqS (ifS (orT (notT (asB (fL S__law_shaped (consA (f2 dIx (vF 3) (cF (.int 0))) (consA (fL dLen (consA (vF 0) nilA)) nilA))))) (notT (asB (fL S__law_shaped (consA (f2 dIx (vF 3) (cF (.int 1))) (consA (fL dLen (consA (vF 1) nilA)) nilA)))))) (retS (cF (.bool false))) nopS) (seqS (ifS (andT (asB (f2 dGt (fL dLen (consA (f2 dIx (vF 3) (cF (.int 0))) nilA)) (cF (.int 1)))) (asB (f2 dGt (fL dLen (consA (f2 dIx (vF 3) (cF (.int 1))) nilA)) (cF (.int 1))))) (retS (cF (.bool false))) nopS) (seqS (setS 4 (f2 dAdd (lstF (lcF (seqA (f2 dIx (vF 3) (cF (.int 0)))) [5] (tgN 5) yesT (f2 dIx (f2 dIx (vF 0) (vF 5)) (cF (.int 0))))) (lstF (lcF (seqA (f2 dIx (vF 3) (cF (.int 1)))) [5] (tgN 5) yesT (f2 dIx (f2 dIx (vF 1) (vF 5)) (cF (.int 0))))))) (seqS (setS 6 (f2 dSub (fL dSum (consA (lstF (lcF (seqA (f2 dIx (vF 3) (cF (.int 0)))) [5] (tgN 5) yesT (f2 dIx (f2 dIx (vF 0) (vF 5)) (cF (.int 1))))) nilA)) (fL dSum (consA (lstF (lcF (seqA (f2 dIx (vF 3) (cF (.int 1)))) [5] (tgN 5) yesT (f2 dIx (f2 dIx (vF 1) (vF 5)) (cF (.int 1))))) nilA)))) (retS (andF (f2 dEq (vF 6) (cF (.int 0))) (f2 dLe (f2 dSub (fL dMax (consA (vF 4) nilA)) (fL dMin (consA (vF 4) nilA))) (vF 2))))))))
def S__law_due : List PyData → Option PyData := runF 7 4 B__law_due
theorem kd__law_due {f : Addr} {fd : FuncData} (h : Here K mg "_law_due" s__law_due ["_law_banks", "_law_books", "_law_span", "_law_match"] f fd) (m_len : mg "len" = none) (m_sum : mg "sum" = none) (m_max : mg "max" = none) (m_min : mg "min" = none) (c__law_shaped : Kn P w K mg base "_law_shaped" 1 ["_law_places_here", "_law_size"] S__law_shaped) : Kn P w K mg base "_law_due" 2 ["_law_banks", "_law_books", "_law_span", "_law_match"] S__law_due :=
  kd_of h (fn_d h.fn sc__law_due rfl rfl (by decide) fun cdv A outer s H E hr => ⟨[], [], (s_cons (s_if (t_w (w_or (t_not (t_val (d_callK c__law_shaped hr (by decide) pass0 (by rfl) (a_cons (d_ix (b_var 3 (pv 3)) (d_b d_int) (fun _ _ => rfl)) (a_cons (d_callB c_len (by rfl) m_len (by decide +kernel) (ab_cons (b_var 0 (pv 0)) ab_nil)) a_nil))))) (w_or1 (t_not (t_val (d_callK c__law_shaped hr (by decide) pass0 (by rfl) (a_cons (d_ix (b_var 3 (pv 3)) (d_b d_int) (fun _ _ => rfl)) (a_cons (d_callB c_len (by rfl) m_len (by decide +kernel) (ab_cons (b_var 1 (pv 1)) ab_nil)) a_nil)))))))) (s_one (s_ret d_bl)) s_nil) (s_cons (s_if (t_w (w_and (t_cmp op_dGt (d_b (d_callB c_len (by rfl) m_len (by decide +kernel) (ab_cons (d_b (d_ix (b_var 3 (pv 3)) (d_b d_int) (fun _ _ => rfl))) ab_nil))) (d_b d_int) (by rfl)) (w_and1 (t_cmp op_dGt (d_b (d_callB c_len (by rfl) m_len (by decide +kernel) (ab_cons (d_b (d_ix (b_var 3 (pv 3)) (d_b d_int) (fun _ _ => rfl))) ab_nil))) (d_b d_int) (by rfl))))) (s_one (s_ret d_bl)) s_nil) (s_cons (s_set (i := 4) sc__law_due.nd rfl (by first | exact Or.inl rfl | exact Or.inr rfl) rfl (d_op op_dAdd (d_b (o_d (o_lc (own := [("_law_place", 5)]) rfl sc__law_due.nd (i_seq (d_ix (b_var 3 (pv 3)) (d_b d_int) (fun _ _ => rfl))) (blkOk_by (own := [("_law_place", 5)]) (N := N__law_due) (sc := defScope s__law_due) (by decide +kernel)) (tg_n rfl) (by decide) rfl (fun _ _ _ _ _ => (pg_name (i := 5) sc__law_due.nd rfl (by first | exact Or.inl rfl | exact Or.inr rfl))) (fun _ _ _ _ _ => ts_nil) (fun _ _ _ _ _ => (d_ix (d_b (d_ix (b_var 0 (pv 0)) (b_var 5 (pv 5)) (fun _ _ => rfl))) (d_b d_int) (fun _ _ => rfl)))))) (d_b (o_d (o_lc (own := [("_law_place", 5)]) rfl sc__law_due.nd (i_seq (d_ix (b_var 3 (pv 3)) (d_b d_int) (fun _ _ => rfl))) (blkOk_by (own := [("_law_place", 5)]) (N := N__law_due) (sc := defScope s__law_due) (by decide +kernel)) (tg_n rfl) (by decide) rfl (fun _ _ _ _ _ => (pg_name (i := 5) sc__law_due.nd rfl (by first | exact Or.inl rfl | exact Or.inr rfl))) (fun _ _ _ _ _ => ts_nil) (fun _ _ _ _ _ => (d_ix (d_b (d_ix (b_var 1 (pv 1)) (b_var 5 (pv 5)) (fun _ _ => rfl))) (d_b d_int) (fun _ _ => rfl)))))))) (s_cons (s_set (i := 6) sc__law_due.nd rfl (by first | exact Or.inl rfl | exact Or.inr rfl) rfl (d_op op_dSub (d_b (d_callB (c_sum rfl) (by rfl) m_sum (by decide +kernel) (ab_cons (d_b (o_d (o_lc (own := [("_law_place", 5)]) rfl sc__law_due.nd (i_seq (d_ix (b_var 3 (pv 3)) (d_b d_int) (fun _ _ => rfl))) (blkOk_by (own := [("_law_place", 5)]) (N := N__law_due) (sc := defScope s__law_due) (by decide +kernel)) (tg_n rfl) (by decide) rfl (fun _ _ _ _ _ => (pg_name (i := 5) sc__law_due.nd rfl (by first | exact Or.inl rfl | exact Or.inr rfl))) (fun _ _ _ _ _ => ts_nil) (fun _ _ _ _ _ => (d_ix (d_b (d_ix (b_var 0 (pv 0)) (b_var 5 (pv 5)) (fun _ _ => rfl))) (d_b d_int) (fun _ _ => rfl)))))) ab_nil))) (d_b (d_callB (c_sum rfl) (by rfl) m_sum (by decide +kernel) (ab_cons (d_b (o_d (o_lc (own := [("_law_place", 5)]) rfl sc__law_due.nd (i_seq (d_ix (b_var 3 (pv 3)) (d_b d_int) (fun _ _ => rfl))) (blkOk_by (own := [("_law_place", 5)]) (N := N__law_due) (sc := defScope s__law_due) (by decide +kernel)) (tg_n rfl) (by decide) rfl (fun _ _ _ _ _ => (pg_name (i := 5) sc__law_due.nd rfl (by first | exact Or.inl rfl | exact Or.inr rfl))) (fun _ _ _ _ _ => ts_nil) (fun _ _ _ _ _ => (d_ix (d_b (d_ix (b_var 1 (pv 1)) (b_var 5 (pv 5)) (fun _ _ => rfl))) (d_b d_int) (fun _ _ => rfl)))))) ab_nil))))) (s_one (s_ret (d_and (d_cmp (op_dEq (hu200 hr)) (b_var 6 (pv 6)) (d_b d_int) (by rfl)) (d_one (d_cmp op_dLe (d_b (d_op op_dSub (d_b (d_callB (c_max rfl) (by rfl) m_max (by decide +kernel) (ab_cons (b_var 4 (pv 4)) ab_nil))) (d_b (d_callB (c_min rfl) (by rfl) m_min (by decide +kernel) (ab_cons (b_var 4 (pv 4)) ab_nil))))) (b_var 2 (pv 2)) (by rfl))))))))))⟩)
abbrev s__law_made_even : Stmt := top 12
abbrev N__law_made_even : List Str := ["_law_banks", "_law_books", "_law_match", "_law_way", "_law_far", "_law_place", "_law_at", "_law_total"]
theorem sc__law_made_even : FnScope N__law_made_even ["_law_banks", "_law_books", "_law_match", "_law_way"] (defScope s__law_made_even) := ⟨rfl, rfl, rfl, by decide +kernel, rfl, by decide +kernel, by decide +kernel⟩
def T__law_made_even_6 : Bs := (retS (f2 dAdd (f2 dAdd (slF dSl (vF 0) noP (someP (vF 6))) (lstF (few (consA (tupF (consA (f2 dIx (f2 dIx (vF 0) (vF 6)) (cF (.int 0))) (consA (vF 7) nilA))) nilA)))) (slF dSl (vF 0) (someP (f2 dAdd (vF 6) (cF (.int 1)))) noP)))
def T__law_made_even_5 : Bs := (seqS (ifS (asB (f2 dEq (vF 7) (cF (.int 0)))) (retS (vF 0)) nopS) T__law_made_even_6)
def T__law_made_even_4 : Bs := (seqS (ifS (asB (f2 dEq (vF 3) (cF (.int 3)))) (setS 7 (f2 dAdd (vF 7) (cF (.int 1)))) nopS) T__law_made_even_5)
def T__law_made_even_3 : Bs := (seqS (setS 7 (f2 dSub (fL dSum (consA (lstF (lcF (seqA (f2 dIx (vF 2) (cF (.int 1)))) [5] (tgN 5) yesT (f2 dIx (f2 dIx (vF 1) (vF 5)) (cF (.int 1))))) nilA)) (fL dSum (consA (lstF (lcF (seqA (slF dSl (f2 dIx (vF 2) (cF (.int 0))) (someP (cF (.int 1))) noP)) [5] (tgN 5) yesT (f2 dIx (f2 dIx (vF 0) (vF 5)) (cF (.int 1))))) nilA)))) T__law_made_even_4)
def T__law_made_even_2 : Bs := (seqS (setS 6 (f2 dIx (f2 dIx (vF 2) (cF (.int 0))) (cF (.int 0)))) T__law_made_even_3)
def T__law_made_even_1 : Bs := (seqS (ifS (orT (asB (f2 dEq (vF 3) (cF (.int 0)))) (orT (asB (f2 dNe (vF 4) (lstF (few nilA)))) (notT (asB (fL S__law_shaped (consA (f2 dIx (vF 2) (cF (.int 0))) (consA (fL dLen (consA (vF 0) nilA)) nilA))))))) (retS (vF 0)) nopS) T__law_made_even_2)
def B__law_made_even : Bs := (seqS (setS 4 (lstF (lcF (seqA (f2 dIx (vF 2) (cF (.int 1)))) [5] (tgN 5) (notT (asB (chF dLe dLt (cF (.int 0)) (vF 5) (fL dLen (consA (vF 1) nilA))))) (vF 5)))) T__law_made_even_1)
def S__law_made_even : List PyData → Option PyData := runF 8 4 B__law_made_even
theorem kd__law_made_even {f : Addr} {fd : FuncData} (h : Here K mg "_law_made_even" s__law_made_even ["_law_banks", "_law_books", "_law_match", "_law_way"] f fd) (m_len : mg "len" = none) (m_sum : mg "sum" = none) (c__law_shaped : Kn P w K mg base "_law_shaped" 1 ["_law_places_here", "_law_size"] S__law_shaped) : Kn P w K mg base "_law_made_even" 2 ["_law_banks", "_law_books", "_law_match", "_law_way"] S__law_made_even :=
  kd_of h (fn_d h.fn sc__law_made_even rfl rfl (by decide) fun cdv A outer s H E hr => ⟨[], [], (s_cons (s_setLc (i := 4) (own := [("_law_place", 5)]) rfl sc__law_made_even.nd rfl rfl rfl (sw_true rfl rfl rfl (by decide +kernel)) (i_seq (d_ix (b_var 2 (pv 2)) (d_b d_int) (fun _ _ => rfl))) (blkOk_by (own := [("_law_place", 5)]) (N := N__law_made_even) (sc := defScope s__law_made_even) (by decide +kernel)) (tg_n rfl) (by decide) rfl (fun _ _ _ _ _ => (pg_name (i := 5) sc__law_made_even.nd rfl (by first | exact Or.inl rfl | exact Or.inr rfl))) (fun _ _ _ _ _ => (ts_one (t_not (t_chain op_dLe (op_dLt (hu200 hr)) (d_b d_int) (b_var 5 (pv 5)) (d_b (d_callB c_len (by rfl) m_len (by decide +kernel) (ab_cons (b_var 1 (pv 1)) ab_nil))))))) (fun _ _ _ _ _ => (d_var 5 (pv 5)))) (s_cons (s_if (t_w (w_or (t_cmp (op_dEq (hu200 hr)) (b_var 3 (pv 3)) (d_b d_int) (by rfl)) (w_or (t_cmp (op_dNe (hu200 hr)) (b_var 4 (pv 4)) (d_b (o_d (o_lst a_nil))) (by rfl)) (w_or1 (t_not (t_val (d_callK c__law_shaped hr (by decide) pass0 (by rfl) (a_cons (d_ix (b_var 2 (pv 2)) (d_b d_int) (fun _ _ => rfl)) (a_cons (d_callB c_len (by rfl) m_len (by decide +kernel) (ab_cons (b_var 0 (pv 0)) ab_nil)) a_nil))))))))) (s_one (s_ret (d_var 0 (pv 0)))) s_nil) (s_cons (s_set (i := 6) sc__law_made_even.nd rfl (by first | exact Or.inl rfl | exact Or.inr rfl) rfl (d_ix (d_b (d_ix (b_var 2 (pv 2)) (d_b d_int) (fun _ _ => rfl))) (d_b d_int) (fun _ _ => rfl))) (s_cons (s_set (i := 7) sc__law_made_even.nd rfl (by first | exact Or.inl rfl | exact Or.inr rfl) rfl (d_op op_dSub (d_b (d_callB (c_sum rfl) (by rfl) m_sum (by decide +kernel) (ab_cons (d_b (o_d (o_lc (own := [("_law_place", 5)]) rfl sc__law_made_even.nd (i_seq (d_ix (b_var 2 (pv 2)) (d_b d_int) (fun _ _ => rfl))) (blkOk_by (own := [("_law_place", 5)]) (N := N__law_made_even) (sc := defScope s__law_made_even) (by decide +kernel)) (tg_n rfl) (by decide) rfl (fun _ _ _ _ _ => (pg_name (i := 5) sc__law_made_even.nd rfl (by first | exact Or.inl rfl | exact Or.inr rfl))) (fun _ _ _ _ _ => ts_nil) (fun _ _ _ _ _ => (d_ix (d_b (d_ix (b_var 1 (pv 1)) (b_var 5 (pv 5)) (fun _ _ => rfl))) (d_b d_int) (fun _ _ => rfl)))))) ab_nil))) (d_b (d_callB (c_sum rfl) (by rfl) m_sum (by decide +kernel) (ab_cons (d_b (o_d (o_lc (own := [("_law_place", 5)]) rfl sc__law_made_even.nd (i_seq (d_sl (d_b (d_ix (b_var 2 (pv 2)) (d_b d_int) (fun _ _ => rfl))) (p_some (d_b d_int)) p_none)) (blkOk_by (own := [("_law_place", 5)]) (N := N__law_made_even) (sc := defScope s__law_made_even) (by decide +kernel)) (tg_n rfl) (by decide) rfl (fun _ _ _ _ _ => (pg_name (i := 5) sc__law_made_even.nd rfl (by first | exact Or.inl rfl | exact Or.inr rfl))) (fun _ _ _ _ _ => ts_nil) (fun _ _ _ _ _ => (d_ix (d_b (d_ix (b_var 0 (pv 0)) (b_var 5 (pv 5)) (fun _ _ => rfl))) (d_b d_int) (fun _ _ => rfl)))))) ab_nil))))) (s_cons (s_if (t_cmp (op_dEq (hu200 hr)) (b_var 3 (pv 3)) (d_b d_int) (by rfl)) (s_one (s_set (i := 7) sc__law_made_even.nd rfl (by first | exact Or.inl rfl | exact Or.inr rfl) rfl (d_op op_dAdd (b_var 7 (pv 7)) (d_b d_int)))) s_nil) (s_cons (s_if (t_cmp (op_dEq (hu200 hr)) (b_var 7 (pv 7)) (d_b d_int) (by rfl)) (s_one (s_ret (d_var 0 (pv 0)))) s_nil) (s_one (s_ret (d_op op_dAdd (d_b (d_op op_dAdd (d_b (d_sl (b_var 0 (pv 0)) p_none (p_some (b_var 6 (pv 6))))) (d_b (o_d (o_lst (a_cons (d_tup (a_cons (d_ix (d_b (d_ix (b_var 0 (pv 0)) (b_var 6 (pv 6)) (fun _ _ => rfl))) (d_b d_int) (fun _ _ => rfl)) (a_cons (d_var 7 (pv 7)) a_nil))) a_nil)))))) (d_b (d_sl (b_var 0 (pv 0)) (p_some (d_b (d_op op_dAdd (b_var 6 (pv 6)) (d_b d_int)))) p_none)))))))))))⟩)
abbrev s_law : Stmt := top 13
abbrev N_law : List Str := ["_law_script", "_law_far", "_law_scale", "_law_span", "_law_sizes", "_law_banks", "_law_k", "_law_books", "_law_pairs", "_law_counts", "_law_ones", "_law_cell", "_law_others", "_law_match", "_law_one", "_law_other", "_law_found", "_law_told", "_law_due_here", "_law_place", "_law_mark"]
theorem sc_law : FnScope N_law ["_law_script"] (defScope s_law) := ⟨rfl, rfl, rfl, by decide +kernel, rfl, by decide +kernel, by decide +kernel⟩
def T_law_22 : Bs := (retS (andF (f1 (dIsi PyData.isList) (vF 17)) (andF (f2 dEq (vF 17) (vF 18)) (f2 dEq (lstF (lcF (seqA (vF 17)) [20] (tgN 20) (notT (asB (f1 (dIsi PyData.isTuple) (vF 20)))) (vF 20))) (lstF (few nilA))))))
def T_law_21 : Bs := (seqS (setS 18 (f2 dAdd (lstF (lcF (seqA (vF 10)) [19] (tgN 19) yesT (tupF (consA (cF (.str "bank")) (consA (vF 19) nilA))))) (lstF (lcF (seqA (vF 12)) [19] (tgN 19) yesT (tupF (consA (cF (.str "book")) (consA (vF 19) nilA))))))) T_law_22)
def T_law_20 : Bs := (seqS (setS 17 (fL S_marks_of (consA (vF 13) nilA))) T_law_21)
def T_law_19 : Bs := (seqS (ifS (orT (notT (asB (fL S__law_shaped (consA (vF 10) (consA (f2 dIx (vF 4) (cF (.int 0))) nilA))))) (notT (asB (fL S__law_shaped (consA (vF 12) (consA (f2 dIx (vF 4) (cF (.int 1))) nilA)))))) (retS (cF (.bool true))) nopS) T_law_20)
def T_law_18 : Bs := (seqS (ifS (asB (f2 dNe (vF 16) (fL S__law_due (consA (vF 5) (consA (vF 7) (consA (vF 3) (consA (vF 13) nilA))))))) (retS (cF (.bool false))) nopS) T_law_19)
def T_law_17 : Bs := (seqS (ifS (orT (notT (asB (f1 (dIsi PyData.isBool) (vF 16)))) (orT (asB (f2 dNe (vF 14) (vF 5))) (asB (f2 dNe (vF 15) (vF 7))))) (retS (cF (.bool false))) nopS) T_law_18)
def T_law_16 : Bs := (seqS (setS 16 (fL S_fits (consA (vF 14) (consA (vF 15) (consA (vF 3) (consA (vF 13) nilA)))))) T_law_17)
def T_law_15 : Bs := (seqS (setS 15 (lstF (fL dList (consA (vF 7) nilA)))) T_law_16)
def T_law_14 : Bs := (seqS (setS 14 (lstF (fL dList (consA (vF 5) nilA)))) T_law_15)
def T_law_13 : Bs := (seqS (setS 5 (fL S__law_made_even (consA (vF 5) (consA (vF 7) (consA (vF 13) (consA (f2 dMod (f2 dMod (f2 dDiv (vF 11) (cF (.int 8))) (cF (.int 6))) (cF (.int 4))) nilA)))))) T_law_14)
def T_law_12 : Bs := (seqS (setS 13 (tupF (consA (fL dTuple (consA (vF 10) nilA)) (consA (fL dTuple (consA (vF 12) nilA)) nilA)))) T_law_13)
def T_law_11 : Bs := (seqS (setS 12 (fL S__law_bent (consA (fL S__law_places (consA (fL S__law_cell_at (consA (vF 0) (consA (cF (.int 5)) nilA))) (consA (f2 dIx (vF 4) (cF (.int 1))) (consA (f2 dIx (vF 9) (cF (.int 1))) nilA)))) (consA (f2 dMod (vF 11) (cF (.int 8))) (consA (f2 dIx (vF 4) (cF (.int 1))) nilA))))) T_law_12)
def T_law_10 : Bs := (seqS (setS 11 (f2 dDiv (fL S__law_cell_at (consA (vF 0) (consA (cF (.int 6)) nilA))) (cF (.int 10)))) T_law_11)
def T_law_9 : Bs := (seqS (setS 10 (fL S__law_bent (consA (fL S__law_places (consA (fL S__law_cell_at (consA (vF 0) (consA (cF (.int 4)) nilA))) (consA (f2 dIx (vF 4) (cF (.int 0))) (consA (f2 dIx (vF 9) (cF (.int 0))) nilA)))) (consA (f2 dMod (fL S__law_cell_at (consA (vF 0) (consA (cF (.int 6)) nilA))) (cF (.int 10))) (consA (f2 dIx (vF 4) (cF (.int 0))) nilA))))) T_law_10)
def T_law_8 : Bs := (seqS (setS 9 (f2 dIx (vF 8) (f2 dMod (fL S__law_cell_at (consA (vF 0) (consA (cF (.int 3)) nilA))) (cF (.int 10))))) T_law_9)
def T_law_7 : Bs := (seqS (setS 8 (lstF (few (consA (tupF (consA (cF (.int 1)) (consA (cF (.int 1)) nilA))) (consA (tupF (consA (cF (.int 1)) (consA (cF (.int 2)) nilA))) (consA (tupF (consA (cF (.int 1)) (consA (cF (.int 3)) nilA))) (consA (tupF (consA (cF (.int 2)) (consA (cF (.int 1)) nilA))) (consA (tupF (consA (cF (.int 3)) (consA (cF (.int 1)) nilA))) (consA (tupF (consA (cF (.int 2)) (consA (cF (.int 2)) nilA))) (consA (tupF (consA (cF (.int 1)) (consA (cF (.int 4)) nilA))) (consA (tupF (consA (cF (.int 0)) (consA (cF (.int 1)) nilA))) (consA (tupF (consA (cF (.int 2)) (consA (cF (.int 2)) nilA))) (consA (tupF (consA (cF (.int 1)) (consA (cF (.int 1)) nilA))) nilA))))))))))))) T_law_8)
def T_law_6 : Bs := (seqS (setS 7 (lstF (lcF (fL dRange (exN 1 (consA (f2 dIx (vF 4) (cF (.int 1))) nilA))) [6] (tgN 6) yesT (fL S__law_entry (consA (fL S__law_cell_at (consA (vF 0) (consA (f2 dAdd (cF (.int 13)) (vF 6)) nilA))) (consA (vF 1) (consA (vF 2) nilA))))))) T_law_7)
def T_law_5 : Bs := (seqS (setS 5 (lstF (lcF (fL dRange (exN 1 (consA (f2 dIx (vF 4) (cF (.int 0))) nilA))) [6] (tgN 6) yesT (fL S__law_entry (consA (fL S__law_cell_at (consA (vF 0) (consA (f2 dAdd (cF (.int 7)) (vF 6)) nilA))) (consA (vF 1) (consA (vF 2) nilA))))))) T_law_6)
def T_law_4 : Bs := (seqS (setS 4 (tupF (consA (f2 dAdd (cF (.int 1)) (f2 dMod (fL S__law_cell_at (consA (vF 0) (consA (cF (.int 0)) nilA))) (cF (.int 6)))) (consA (f2 dAdd (cF (.int 1)) (f2 dMod (f2 dDiv (fL S__law_cell_at (consA (vF 0) (consA (cF (.int 0)) nilA))) (cF (.int 6))) (cF (.int 6)))) nilA)))) T_law_5)
def T_law_3 : Bs := (seqS (ifS (asB (f2 dEq (f2 dMod (f2 dDiv (fL S__law_cell_at (consA (vF 0) (consA (cF (.int 2)) nilA))) (cF (.int 31))) (cF (.int 2))) (cF (.int 1)))) (setS 3 (f2 dMod (vF 3) (cF (.int 4)))) nopS) T_law_4)
def T_law_2 : Bs := (seqS (setS 3 (f2 dMod (fL S__law_cell_at (consA (vF 0) (consA (cF (.int 2)) nilA))) (cF (.int 31)))) T_law_3)
def T_law_1 : Bs := (seqS (setS 2 (f2 dAdd (cF (.int 1)) (f2 dMul (f2 dMod (f2 dDiv (fL S__law_cell_at (consA (vF 0) (consA (cF (.int 1)) nilA))) (cF (.int 3))) (cF (.int 2))) (f2 dMod (f2 dDiv (fL S__law_cell_at (consA (vF 0) (consA (cF (.int 1)) nilA))) (cF (.int 6))) (f2 dMul (cF (.int 6)) (f2 dPow (cF (.int 10)) (cF (.int 7)))))))) T_law_2)
def B_law : Bs := (seqS (setS 1 (f2 dEq (f2 dMod (fL S__law_cell_at (consA (vF 0) (consA (cF (.int 1)) nilA))) (cF (.int 3))) (cF (.int 1)))) T_law_1)
def S_law : List PyData → Option PyData := runF 21 1 B_law
theorem ok_law {f : Addr} {fd : FuncData} (h : Here K mg "law" s_law ["_law_script"] f fd) (m_range : mg "range" = none) (m_tuple : mg "tuple" = none) (m_list : mg "list" = none) (m_isinstance : mg "isinstance" = none) (m_bool : mg "bool" = none) (c__law_cell_at : Kn P w K mg base "_law_cell_at" 1 ["_law_script", "_law_k"] S__law_cell_at) (c__law_entry : Kn P w K mg base "_law_entry" 1 ["_law_cell", "_law_far", "_law_scale"] S__law_entry) (c__law_bent : Kn P w K mg base "_law_bent" 1 ["_law_places_here", "_law_way", "_law_size"] S__law_bent) (c__law_places : Kn P w K mg base "_law_places" 1 ["_law_cell", "_law_size", "_law_count"] S__law_places) (c__law_made_even : Kn P w K mg base "_law_made_even" 2 ["_law_banks", "_law_books", "_law_match", "_law_way"] S__law_made_even) (c_fits : Kn P w K mg base "fits" 2 ["banks", "books", "span", "match"] S_fits) (c__law_due : Kn P w K mg base "_law_due" 2 ["_law_banks", "_law_books", "_law_span", "_law_match"] S__law_due) (c__law_shaped : Kn P w K mg base "_law_shaped" 1 ["_law_places_here", "_law_size"] S__law_shaped) (c_marks_of : Kn P w K mg base "marks_of" 1 ["match"] S_marks_of) : FnOk P w K mg base CX0 3 f fd ["_law_script"] (spD K S_law) :=
  fn_d h.fn sc_law rfl rfl (by decide) fun cdv A outer s H E hr => ⟨[], [], (s_cons (s_set (i := 1) sc_law.nd rfl (by first | exact Or.inl rfl | exact Or.inr rfl) rfl (d_cmp (op_dEq (hu200 hr)) (d_b (d_op op_dMod (d_b (d_callK c__law_cell_at hr (by decide) pass0 (by rfl) (a_cons (d_var 0 (pv 0)) (a_cons d_int a_nil)))) (d_b d_int))) (d_b d_int) (by rfl))) (s_cons (s_set (i := 2) sc_law.nd rfl (by first | exact Or.inl rfl | exact Or.inr rfl) rfl (d_op op_dAdd (d_b d_int) (d_b (d_op op_dMul (d_b (d_op op_dMod (d_b (d_op op_dDiv (d_b (d_callK c__law_cell_at hr (by decide) pass0 (by rfl) (a_cons (d_var 0 (pv 0)) (a_cons d_int a_nil)))) (d_b d_int))) (d_b d_int))) (d_b (d_op op_dMod (d_b (d_op op_dDiv (d_b (d_callK c__law_cell_at hr (by decide) pass0 (by rfl) (a_cons (d_var 0 (pv 0)) (a_cons d_int a_nil)))) (d_b d_int))) (d_b (d_op op_dMul (d_b d_int) (d_b (d_op op_dPow (d_b d_int) (d_b d_int))))))))))) (s_cons (s_set (i := 3) sc_law.nd rfl (by first | exact Or.inl rfl | exact Or.inr rfl) rfl (d_op op_dMod (d_b (d_callK c__law_cell_at hr (by decide) pass0 (by rfl) (a_cons (d_var 0 (pv 0)) (a_cons d_int a_nil)))) (d_b d_int))) (s_cons (s_if (t_cmp (op_dEq (hu200 hr)) (d_b (d_op op_dMod (d_b (d_op op_dDiv (d_b (d_callK c__law_cell_at hr (by decide) pass0 (by rfl) (a_cons (d_var 0 (pv 0)) (a_cons d_int a_nil)))) (d_b d_int))) (d_b d_int))) (d_b d_int) (by rfl)) (s_one (s_set (i := 3) sc_law.nd rfl (by first | exact Or.inl rfl | exact Or.inr rfl) rfl (d_op op_dMod (b_var 3 (pv 3)) (d_b d_int)))) s_nil) (s_cons (s_set (i := 4) sc_law.nd rfl (by first | exact Or.inl rfl | exact Or.inr rfl) rfl (d_tup (a_cons (d_op op_dAdd (d_b d_int) (d_b (d_op op_dMod (d_b (d_callK c__law_cell_at hr (by decide) pass0 (by rfl) (a_cons (d_var 0 (pv 0)) (a_cons d_int a_nil)))) (d_b d_int)))) (a_cons (d_op op_dAdd (d_b d_int) (d_b (d_op op_dMod (d_b (d_op op_dDiv (d_b (d_callK c__law_cell_at hr (by decide) pass0 (by rfl) (a_cons (d_var 0 (pv 0)) (a_cons d_int a_nil)))) (d_b d_int))) (d_b d_int)))) a_nil)))) (s_cons (s_setLc (i := 5) (own := [("_law_k", 6)]) rfl sc_law.nd rfl rfl rfl (sw_true rfl rfl rfl (by decide +kernel)) (i_range1 (by rfl) m_range (ab_cons (d_b (d_ix (b_var 4 (pv 4)) (d_b d_int) (fun _ _ => rfl))) ab_nil)) (blkOk_by (own := [("_law_k", 6)]) (N := N_law) (sc := defScope s_law) (by decide +kernel)) (tg_n rfl) (by decide) rfl (fun _ _ _ _ _ => (pg_name (i := 6) sc_law.nd rfl (by first | exact Or.inl rfl | exact Or.inr rfl))) (fun _ _ _ _ _ => ts_nil) (fun _ _ _ _ _ => (d_callK c__law_entry hr (by decide) pass0 (by rfl) (a_cons (d_callK c__law_cell_at hr (by decide) pass0 (by rfl) (a_cons (d_var 0 (pv 0)) (a_cons (d_op op_dAdd (d_b d_int) (b_var 6 (pv 6))) a_nil))) (a_cons (d_var 1 (pv 1)) (a_cons (d_var 2 (pv 2)) a_nil)))))) (s_cons (s_setLc (i := 7) (own := [("_law_k", 6)]) rfl sc_law.nd rfl rfl rfl (sw_true rfl rfl rfl (by decide +kernel)) (i_range1 (by rfl) m_range (ab_cons (d_b (d_ix (b_var 4 (pv 4)) (d_b d_int) (fun _ _ => rfl))) ab_nil)) (blkOk_by (own := [("_law_k", 6)]) (N := N_law) (sc := defScope s_law) (by decide +kernel)) (tg_n rfl) (by decide) rfl (fun _ _ _ _ _ => (pg_name (i := 6) sc_law.nd rfl (by first | exact Or.inl rfl | exact Or.inr rfl))) (fun _ _ _ _ _ => ts_nil) (fun _ _ _ _ _ => (d_callK c__law_entry hr (by decide) pass0 (by rfl) (a_cons (d_callK c__law_cell_at hr (by decide) pass0 (by rfl) (a_cons (d_var 0 (pv 0)) (a_cons (d_op op_dAdd (d_b d_int) (b_var 6 (pv 6))) a_nil))) (a_cons (d_var 1 (pv 1)) (a_cons (d_var 2 (pv 2)) a_nil)))))) (s_cons (s_set (i := 8) sc_law.nd rfl (by first | exact Or.inl rfl | exact Or.inr rfl) rfl (o_d (o_lst (a_cons (d_tup (a_cons d_int (a_cons d_int a_nil))) (a_cons (d_tup (a_cons d_int (a_cons d_int a_nil))) (a_cons (d_tup (a_cons d_int (a_cons d_int a_nil))) (a_cons (d_tup (a_cons d_int (a_cons d_int a_nil))) (a_cons (d_tup (a_cons d_int (a_cons d_int a_nil))) (a_cons (d_tup (a_cons d_int (a_cons d_int a_nil))) (a_cons (d_tup (a_cons d_int (a_cons d_int a_nil))) (a_cons (d_tup (a_cons d_int (a_cons d_int a_nil))) (a_cons (d_tup (a_cons d_int (a_cons d_int a_nil))) (a_cons (d_tup (a_cons d_int (a_cons d_int a_nil))) a_nil))))))))))))) (s_cons (s_set (i := 9) sc_law.nd rfl (by first | exact Or.inl rfl | exact Or.inr rfl) rfl (d_ix (b_var 8 (pv 8)) (d_b (d_op op_dMod (d_b (d_callK c__law_cell_at hr (by decide) pass0 (by rfl) (a_cons (d_var 0 (pv 0)) (a_cons d_int a_nil)))) (d_b d_int))) (fun _ _ => rfl))) (s_cons (s_set (i := 10) sc_law.nd rfl (by first | exact Or.inl rfl | exact Or.inr rfl) rfl (d_callK c__law_bent hr (by decide) pass0 (by rfl) (a_cons (d_callK c__law_places hr (by decide) pass0 (by rfl) (a_cons (d_callK c__law_cell_at hr (by decide) pass0 (by rfl) (a_cons (d_var 0 (pv 0)) (a_cons d_int a_nil))) (a_cons (d_ix (b_var 4 (pv 4)) (d_b d_int) (fun _ _ => rfl)) (a_cons (d_ix (b_var 9 (pv 9)) (d_b d_int) (fun _ _ => rfl)) a_nil)))) (a_cons (d_op op_dMod (d_b (d_callK c__law_cell_at hr (by decide) pass0 (by rfl) (a_cons (d_var 0 (pv 0)) (a_cons d_int a_nil)))) (d_b d_int)) (a_cons (d_ix (b_var 4 (pv 4)) (d_b d_int) (fun _ _ => rfl)) a_nil))))) (s_cons (s_set (i := 11) sc_law.nd rfl (by first | exact Or.inl rfl | exact Or.inr rfl) rfl (d_op op_dDiv (d_b (d_callK c__law_cell_at hr (by decide) pass0 (by rfl) (a_cons (d_var 0 (pv 0)) (a_cons d_int a_nil)))) (d_b d_int))) (s_cons (s_set (i := 12) sc_law.nd rfl (by first | exact Or.inl rfl | exact Or.inr rfl) rfl (d_callK c__law_bent hr (by decide) pass0 (by rfl) (a_cons (d_callK c__law_places hr (by decide) pass0 (by rfl) (a_cons (d_callK c__law_cell_at hr (by decide) pass0 (by rfl) (a_cons (d_var 0 (pv 0)) (a_cons d_int a_nil))) (a_cons (d_ix (b_var 4 (pv 4)) (d_b d_int) (fun _ _ => rfl)) (a_cons (d_ix (b_var 9 (pv 9)) (d_b d_int) (fun _ _ => rfl)) a_nil)))) (a_cons (d_op op_dMod (b_var 11 (pv 11)) (d_b d_int)) (a_cons (d_ix (b_var 4 (pv 4)) (d_b d_int) (fun _ _ => rfl)) a_nil))))) (s_cons (s_set (i := 13) sc_law.nd rfl (by first | exact Or.inl rfl | exact Or.inr rfl) rfl (d_tup (a_cons (d_callT c_tuple (by rfl) m_tuple (by decide +kernel) (ab_cons (b_var 10 (pv 10)) ab_nil)) (a_cons (d_callT c_tuple (by rfl) m_tuple (by decide +kernel) (ab_cons (b_var 12 (pv 12)) ab_nil)) a_nil)))) (s_cons (s_set (i := 5) sc_law.nd rfl (by first | exact Or.inl rfl | exact Or.inr rfl) rfl (d_callK c__law_made_even hr (by decide) pass0 (by rfl) (a_cons (d_var 5 (pv 5)) (a_cons (d_var 7 (pv 7)) (a_cons (d_var 13 (pv 13)) (a_cons (d_op op_dMod (d_b (d_op op_dMod (d_b (d_op op_dDiv (b_var 11 (pv 11)) (d_b d_int))) (d_b d_int))) (d_b d_int)) a_nil)))))) (s_cons (s_set (i := 14) sc_law.nd rfl (by first | exact Or.inl rfl | exact Or.inr rfl) rfl (o_d (o_callT c_list (by rfl) m_list (by decide +kernel) (ab_cons (b_var 5 (pv 5)) ab_nil)))) (s_cons (s_set (i := 15) sc_law.nd rfl (by first | exact Or.inl rfl | exact Or.inr rfl) rfl (o_d (o_callT c_list (by rfl) m_list (by decide +kernel) (ab_cons (b_var 7 (pv 7)) ab_nil)))) (s_cons (s_set (i := 16) sc_law.nd rfl (by first | exact Or.inl rfl | exact Or.inr rfl) rfl (d_callK c_fits hr (by decide) pass0 (by rfl) (a_cons (d_var 14 (pv 14)) (a_cons (d_var 15 (pv 15)) (a_cons (d_var 3 (pv 3)) (a_cons (d_var 13 (pv 13)) a_nil)))))) (s_cons (s_if (t_w (w_or (t_not (t_val (d_isi isi_bool (by rfl) m_isinstance (by rfl) m_bool (by decide +kernel) (b_var 16 (pv 16))))) (w_or (t_cmp (op_dNe (hu200 hr)) (b_var 14 (pv 14)) (b_var 5 (pv 5)) (by rfl)) (w_or1 (t_cmp (op_dNe (hu200 hr)) (b_var 15 (pv 15)) (b_var 7 (pv 7)) (by rfl)))))) (s_one (s_ret d_bl)) s_nil) (s_cons (s_if (t_cmp (op_dNe (hu200 hr)) (b_var 16 (pv 16)) (d_b (d_callK c__law_due hr (by decide) pass0 (by rfl) (a_cons (d_var 5 (pv 5)) (a_cons (d_var 7 (pv 7)) (a_cons (d_var 3 (pv 3)) (a_cons (d_var 13 (pv 13)) a_nil)))))) (by rfl)) (s_one (s_ret d_bl)) s_nil) (s_cons (s_if (t_w (w_or (t_not (t_val (d_callK c__law_shaped hr (by decide) pass0 (by rfl) (a_cons (d_var 10 (pv 10)) (a_cons (d_ix (b_var 4 (pv 4)) (d_b d_int) (fun _ _ => rfl)) a_nil))))) (w_or1 (t_not (t_val (d_callK c__law_shaped hr (by decide) pass0 (by rfl) (a_cons (d_var 12 (pv 12)) (a_cons (d_ix (b_var 4 (pv 4)) (d_b d_int) (fun _ _ => rfl)) a_nil)))))))) (s_one (s_ret d_bl)) s_nil) (s_cons (s_set (i := 17) sc_law.nd rfl (by first | exact Or.inl rfl | exact Or.inr rfl) rfl (d_callK c_marks_of hr (by decide) pass0 (by rfl) (a_cons (d_var 13 (pv 13)) a_nil))) (s_cons (s_set (i := 18) sc_law.nd rfl (by first | exact Or.inl rfl | exact Or.inr rfl) rfl (d_op op_dAdd (d_b (o_d (o_lc (own := [("_law_place", 19)]) rfl sc_law.nd (i_seq (d_var 10 (pv 10))) (blkOk_by (own := [("_law_place", 19)]) (N := N_law) (sc := defScope s_law) (by decide +kernel)) (tg_n rfl) (by decide) rfl (fun _ _ _ _ _ => (pg_name (i := 19) sc_law.nd rfl (by first | exact Or.inl rfl | exact Or.inr rfl))) (fun _ _ _ _ _ => ts_nil) (fun _ _ _ _ _ => (d_tup (a_cons d_str (a_cons (d_var 19 (pv 19)) a_nil))))))) (d_b (o_d (o_lc (own := [("_law_place", 19)]) rfl sc_law.nd (i_seq (d_var 12 (pv 12))) (blkOk_by (own := [("_law_place", 19)]) (N := N_law) (sc := defScope s_law) (by decide +kernel)) (tg_n rfl) (by decide) rfl (fun _ _ _ _ _ => (pg_name (i := 19) sc_law.nd rfl (by first | exact Or.inl rfl | exact Or.inr rfl))) (fun _ _ _ _ _ => ts_nil) (fun _ _ _ _ _ => (d_tup (a_cons d_str (a_cons (d_var 19 (pv 19)) a_nil))))))))) (s_one (s_ret (d_and (d_isi isi_list (by rfl) m_isinstance (by rfl) m_list (by decide +kernel) (b_var 17 (pv 17))) (d_and (d_cmp (op_dEq (hu200 hr)) (b_var 17 (pv 17)) (b_var 18 (pv 18)) (by rfl)) (d_one (d_cmp (op_dEq (hu200 hr)) (d_b (o_d (o_lc (own := [("_law_mark", 20)]) rfl sc_law.nd (i_seq (d_var 17 (pv 17))) (blkOk_by (own := [("_law_mark", 20)]) (N := N_law) (sc := defScope s_law) (by decide +kernel)) (tg_n rfl) (by decide) rfl (fun _ _ _ _ _ => (pg_name (i := 20) sc_law.nd rfl (by first | exact Or.inl rfl | exact Or.inr rfl))) (fun _ _ _ _ _ => (ts_one (t_not (t_val (d_isi isi_tuple (by rfl) m_isinstance (by rfl) m_tuple (by decide +kernel) (b_var 20 (pv 20))))))) (fun _ _ _ _ _ => (d_var 20 (pv 20)))))) (d_b (o_d (o_lst a_nil))) (by rfl)))))))))))))))))))))))))))))⟩
end
end Dat
open PySem PySem.Spec PyProof.Rows L2
namespace Dat
/-! ### lists of whole numbers -/
abbrev eI (xs : List Int) : List PyData := xs.map PyData.int
theorem intsD_map (xs : List Int) : intsD (eI xs) = some xs := by
  induction xs with
  | nil => rfl
  | cons x xs ih => simp only [eI, List.map_cons, intsD] at ih ⊢; rw [ih]; rfl
theorem sum_ints (xs : List Int) : dSum [.list (eI xs)] = some (.int xs.sum) := by unfold dSum; simp only [intsD_map]; rfl
theorem max_ints {xs : List Int} (h : xs ≠ []) : dMax [.list (eI xs)] = some (.int (xs.max?.getD 0)) := by
  unfold dMax
  simp only [intsD_map, Option.bind_some]
  cases e : xs.max? with
  | none => exact absurd (List.max?_eq_none_iff.mp e) h
  | some m => rfl
theorem min_ints {xs : List Int} (h : xs ≠ []) : dMin [.list (eI xs)] = some (.int (xs.min?.getD 0)) := by
  unfold dMin
  simp only [intsD_map, Option.bind_some]
  cases e : xs.min? with
  | none => exact absurd (List.min?_eq_none_iff.mp e) h
  | some m => rfl
theorem all_ints : ∀ {ds : List PyData}, (∀ d, d ∈ ds → ∃ i, d = .int i) → ∃ xs, ds = eI xs
  | [], _ => ⟨[], rfl⟩
  | d :: ds, h => by
    obtain ⟨i, rfl⟩ := h d (by simp)
    obtain ⟨xs, rfl⟩ := all_ints (ds := ds) fun d hd => h d (by simp [hd])
    exact ⟨i :: xs, rfl⟩
theorem sort_ints (xs : List Int) : ∃ ys, dSorted [.list (eI xs)] = some (eI ys) ∧ ys.length = xs.length := by
  have hok : sortOk (eI xs) = true := by
    unfold sortOk
    simp only [Bool.and_eq_true, Bool.or_eq_true, List.all_eq_true, List.mem_map]
    refine ⟨⟨?_, .inr ?_⟩, ?_⟩
    · rintro x ⟨a, _, rfl⟩ y ⟨b, _, rfl⟩; rfl
    · rintro x ⟨a, _, rfl⟩; rfl
    · rintro x ⟨a, _, rfl⟩; rfl
  unfold dSorted
  simp only [hok, if_true]
  have hp := List.mergeSort_perm (eI xs) (PySem.W.dataLe false id)
  obtain ⟨ys, hy⟩ := all_ints (ds := (eI xs).mergeSort (PySem.W.dataLe false id)) fun d hd => by
    obtain ⟨i, _, rfl⟩ := List.mem_map.mp (hp.mem_iff.mp hd)
    exact ⟨i, rfl⟩
  refine ⟨ys, by rw [hy], ?_⟩
  have := hp.length_eq
  rw [hy] at this
  simpa using this
theorem upFrom_succ (lo : Int) (n : Nat) : upFrom lo (n + 1) = .int lo :: upFrom (lo + 1) n := by
  unfold upFrom
  rw [List.range_succ_eq_map, List.map_cons, List.map_map]
  simp only [Int.natCast_zero, Int.add_zero, List.cons.injEq, true_and]
  apply List.map_congr_left
  intro k _
  simp only [Function.comp_apply, PyData.int.injEq, Nat.succ_eq_add_one]
  omega
theorem upFrom_zero (lo : Int) : upFrom lo 0 = [] := rfl
/-! ### shapes -/
def shp : List Int → Int → Bool
  | [a], n => decide (0 ≤ a ∧ a < n)
  | [a, b], n => decide (0 ≤ a ∧ a < n ∧ 0 ≤ b ∧ b < n ∧ a < b)
  | [a, b, c], n => decide (0 ≤ a ∧ a < n ∧ 0 ≤ b ∧ b < n ∧ a < b ∧ 0 ≤ c ∧ c < n ∧ b < c)
  | _, _ => false
theorem shp_mem {ps : List Int} {n : Int} (h : shp ps n = true) : ps ≠ [] ∧ ps.length ≤ 3 ∧ ∀ p, p ∈ ps → 0 ≤ p ∧ p < n := by
  match ps with
  | [] => cases h
  | [a] => simp [shp] at h; simp; omega
  | [a, b] => simp [shp] at h; simp; omega
  | [a, b, c] => simp [shp] at h; simp; omega
  | a :: b :: c :: d :: r => cases h
theorem shaped (ps : List Int) (n : Int) (hl : ps.length ≤ 1000) (d : PyData) (hd : d = .list (eI ps) ∨ d = .tuple (eI ps)) : S_is_shaped [d, .int n] = some (.bool (shp ps n)) := by
  unfold S_is_shaped B_is_shaped
  have one : ∀ ps : List Int, dLen [d] = some (.int (ps.length : Nat)) → dLen [d] = some (.int ps.length) := fun _ h => h
  have hlen : dLen [d] = some (.int ps.length) := by rcases hd with rfl | rfl <;> simp [eI]
  have hix : ∀ i, dIx d (.int i) = atI (eI ps) i := by rcases hd with rfl | rfl <;> simp
  match ps with
  | [] => simp [hlen, shp]
  | [a] =>
    by_cases h1 : 0 ≤ a <;> by_cases h2 : a < n <;> simp [hlen, hix, shp, upFrom_succ, upFrom_zero, forGo, h1, h2, eI]
  | [a, b] =>
    by_cases h1 : 0 ≤ a <;> by_cases h2 : a < n <;> by_cases h3 : 0 ≤ b <;> by_cases h4 : b < n <;> by_cases h5 : a < b <;> simp [hlen, hix, shp, upFrom_succ, upFrom_zero, forGo, h1, h2, h3, h4, h5, eI, Int.not_le.mpr, Int.not_lt.mp] <;> omega
  | [a, b, c] =>
    by_cases h1 : 0 ≤ a ∧ a < n
    · by_cases h3 : 0 ≤ b ∧ b < n ∧ a < b
      · by_cases h6 : 0 ≤ c ∧ c < n ∧ b < c
        · simp [hlen, hix, shp, upFrom_succ, upFrom_zero, forGo, h1, h3, h6, eI, Int.not_le.mpr]
        · have h7 : ¬ (0 ≤ c ∧ c < n) ∨ c ≤ b := by omega
          by_cases h8 : 0 ≤ c <;> by_cases h9 : c < n <;> by_cases h10 : c ≤ b <;> simp [hlen, hix, shp, upFrom_succ, upFrom_zero, forGo, h1, h3, h8, h9, h10, eI, Int.not_le.mpr] <;> omega
      · by_cases h8 : 0 ≤ b <;> by_cases h9 : b < n <;> by_cases h10 : b ≤ a <;> simp [hlen, hix, shp, upFrom_succ, upFrom_zero, forGo, h1, h8, h9, h10, eI, Int.not_le.mpr] <;> omega
    · by_cases h8 : 0 ≤ a <;> by_cases h9 : a < n <;> simp [hlen, hix, shp, upFrom_succ, upFrom_zero, forGo, h8, h9, eI] <;> omega
  | a :: b :: c :: e :: r =>
    have hm : 4 ≤ (a :: b :: c :: e :: r).length := by simp
    have hs : shp (a :: b :: c :: e :: r) n = false := rfl
    rw [hs]
    generalize (a :: b :: c :: e :: r).length = m at hlen hm
    simp [hlen, show ¬ ((m : Int) ≤ 3) by omega, show (1 : Int) ≤ m by omega]
/-! ### fits -/
def eb (es : List Entry) (p : Int) : Entry := es.getD p.toNat (0, 0)
theorem eb_at {es : List Entry} {p : Int} (h : 0 ≤ p ∧ p < es.length) : atI (es.map eEntry) p = some (eEntry (eb es p)) := by
  obtain ⟨k, rfl⟩ : ∃ k : Nat, p = k := ⟨p.toNat, by omega⟩
  have hk : k < es.length := by omega
  refine atI_nat ?_
  simp [eb, List.getElem?_map, hk]
abbrev eP (ones others : List Int) : PyData := .tuple [.tuple (eI ones), .tuple (eI others)]
def dysOf (banks books : List Entry) (ones others : List Int) : List Int := ones.map (fun p => (eb banks p).1) ++ others.map (fun p => (eb books p).1)
def fitsB (banks books : List Entry) (span : Int) (ones others : List Int) : Bool :=
  shp ones banks.length && shp others books.length && !(decide (1 < ones.length) && decide (1 < others.length)) && decide ((ones.map fun p => (eb banks p).2).sum = (others.map fun p => (eb books p).2).sum) &&
    decide ((dysOf banks books ones others).max?.getD 0 - (dysOf banks books ones others).min?.getD 0 ≤ span)
theorem lc_ix {es : List Entry} {ps : List Int} {i v : Nat} {ρ : Dv} (hv : v ≠ i) (hi : i < ρ.length) (h0 : ρ[v]? = some (some (.list (es.map eEntry)))) (h : ∀ p, p ∈ ps → 0 ≤ p ∧ p < es.length) :
    lcGo (tgN i) yesT (f2 dIx (vF v) (vF i)) ρ (eI ps) = some (ps.map fun p => eEntry (eb es p)) :=
  lc_map PyData.int _ ps fun p hp => by
    simp [List.getElem?_set_ne (Ne.symm hv), h0, hi, eb_at (h p hp)]
theorem lc_ix2 {es : List Entry} {ps : List Int} {i v : Nat} {ρ : Dv} {c : Int} (g : Entry → Int) (hg : ∀ e : Entry, atI [PyData.int e.1, .int e.2] c = some (.int (g e))) (hv : v ≠ i) (hi : i < ρ.length) (h0 : ρ[v]? = some (some (.list (es.map eEntry)))) (h : ∀ p, p ∈ ps → 0 ≤ p ∧ p < es.length) :
    lcGo (tgN i) yesT (f2 dIx (f2 dIx (vF v) (vF i)) (cF (.int c))) ρ (eI ps) = some (eI (ps.map fun p => g (eb es p))) := by
  rw [lc_map PyData.int (fun p => .int (g (eb es p))) ps fun p hp => by
    simp [List.getElem?_set_ne (Ne.symm hv), h0, hi, eb_at (h p hp)]
    simp [eEntry, hg]]
  simp [eI]
theorem lc_part {ps : List Entry} {i : Nat} {ρ : Dv} {c : Int} (g : Entry → Int) (hg : ∀ e : Entry, atI [PyData.int e.1, .int e.2] c = some (.int (g e))) (hi : i < ρ.length) :
    lcGo (tgN i) yesT (f2 dIx (vF i) (cF (.int c))) ρ (ps.map eEntry) = some (eI (ps.map g)) := by
  rw [lc_map eEntry (fun e => .int (g e)) ps fun p hp => by
    simp [hi]
    simp [eEntry, hg]]
  simp [eI]
theorem shaped_l {ps : List Int} {n : Int} (h : ps.length ≤ 1000) : S_is_shaped [.list (eI ps), .int n] = some (.bool (shp ps n)) := shaped ps n h _ (.inl rfl)
theorem shaped_t {ps : List Int} {n : Int} (h : ps.length ≤ 1000) : S_is_shaped [.tuple (eI ps), .int n] = some (.bool (shp ps n)) := shaped ps n h _ (.inr rfl)
theorem fits_eq {banks books : List Entry} {span : Int} {ones others : List Int} (h1 : ones.length ≤ 1000) (h2 : others.length ≤ 1000) :
    S_fits [.list (banks.map eEntry), .list (books.map eEntry), .int span, eP ones others] = some (.bool (fitsB banks books span ones others)) := by
  unfold S_fits B_fits
  have s1 : S_is_shaped [.tuple (eI ones), .int banks.length] = _ := shaped_t h1
  have s2 : S_is_shaped [.tuple (eI others), .int books.length] = _ := shaped_t h2
  cases c1 : shp ones banks.length with
  | false => simp [s1, c1, fitsB]
  | true =>
    cases c2 : shp others books.length with
    | false => simp [s1, s2, c1, c2, fitsB]
    | true =>
      obtain ⟨n1, l1, m1⟩ := shp_mem c1
      obtain ⟨n2, l2, m2⟩ := shp_mem c2
      by_cases c3 : 1 < ones.length ∧ 1 < others.length
      · have d1 : (1 : Int) < ones.length := by omega
        have d2 : (1 : Int) < others.length := by omega
        simp [s1, s2, c1, c2, fitsB, T_fits_1, c3.1, c3.2, d1, d2]
      · have c3' : (decide (1 < ones.length) && decide (1 < others.length)) = false := by simpa using fun h => c3 h
        have key : ∀ ρ', (T_fits_2 [some (.list (banks.map eEntry)), some (.list (books.map eEntry)), some (.int span), some (eP ones others), none, none, none, none, none]) = some ρ' → (T_fits_1 [some (.list (banks.map eEntry)), some (.list (books.map eEntry)), some (.int span), some (eP ones others), none, none, none, none, none]) = some ρ' := by
          intro ρ' h
          unfold T_fits_1
          by_cases d1 : (1 : Int) < ones.length <;> by_cases d2 : (1 : Int) < others.length <;> first | exact absurd ⟨by omega, by omega⟩ c3 | (simp [d1, d2]; exact h)
        have hd : (dysOf banks books ones others) ≠ [] := by
          unfold dysOf
          intro z
          exact n1 (by simpa using (List.append_eq_nil_iff.mp z).1)
        have e1 : ∀ x : Option PyData, lcGo (tgN 5) yesT (f2 dIx (vF 0) (vF 5)) [some (.list (banks.map eEntry)), some (.list (books.map eEntry)), some (.int span), some (eP ones others), none, x, none, none, none] (eI ones) = _ := fun x => lc_ix (es := banks) (by decide) (by simp) rfl m1
        have e2 : ∀ x y : Option PyData, lcGo (tgN 5) yesT (f2 dIx (vF 1) (vF 5)) [some (.list (banks.map eEntry)), some (.list (books.map eEntry)), some (.int span), some (eP ones others), x, y, none, none, none] (eI others) = _ := fun x y => lc_ix (es := books) (by decide) (by simp) rfl m2
        have fin : ∃ ρ', T_fits_2 [some (.list (banks.map eEntry)), some (.list (books.map eEntry)), some (.int span), some (eP ones others), none, none, none, none, none] = some (.ret (.bool (fitsB banks books span ones others)) ρ') := by
          unfold T_fits_2 T_fits_3 T_fits_4
          simp only [e_seqS, e_setS, e_lstF, e_lcF, e_seqA, e_f2, e_vF, e_cF, e_wipeC, e_wipeN, List.getElem?_cons_succ, List.getElem?_cons_zero, Option.join_some, Option.bind_some, e_dIxT, at0, at1, List.set_cons_succ, List.set_cons_zero, Option.map_some, e1, e2]
          have hm : ∀ (es : List Entry) (ps : List Int), (ps.map fun p => eEntry (eb es p)) = (ps.map (eb es)).map eEntry := fun es ps => by simp
          have comp2 : ∀ (es : List Entry) (ps : List Int), (ps.map (eb es)).map (·.2) = ps.map fun p => (eb es p).2 := fun es ps => by simp
          have comp1 : ∀ (es : List Entry) (ps : List Int), (ps.map (eb es)).map (·.1) = ps.map fun p => (eb es p).1 := fun es ps => by simp
          have p2 : ∀ (ρ : Dv) (ps : List Entry), 7 < ρ.length → lcGo (tgN 7) yesT (f2 dIx (vF 7) (cF (.int 1))) ρ (ps.map eEntry) = some (eI (ps.map (·.2))) := fun ρ ps h => lc_part (·.2) (fun e => at1) h
          have p1 : ∀ (ρ : Dv) (ps : List Entry), 7 < ρ.length → lcGo (tgN 7) yesT (f2 dIx (vF 7) (cF (.int 0))) ρ (ps.map eEntry) = some (eI (ps.map (·.1))) := fun ρ ps h => lc_part (·.1) (fun e => at0) h
          simp only [hm, e_ifS, e_asB, e_f2, e_fL, e_consA, e_nilA, e_lstF, e_lcF, e_seqA, e_vF, List.getElem?_cons_succ, List.getElem?_cons_zero, Option.join_some, Option.bind_some, Option.map_some, e_wipeC, e_wipeN, List.set_cons_succ, List.set_cons_zero]
          rw [p2 _ _ (by simp), p2 _ _ (by simp)]
          simp only [Option.bind_some, Option.map_some, sum_ints, e_neI, comp2]
          by_cases c4 : (ones.map fun p => (eb banks p).2).sum = (others.map fun p => (eb books p).2).sum
          · simp only [c4, decide_true, Bool.not_true]
            unfold T_fits_5 T_fits_6
            have hl : ones.length + others.length ≤ 16777216 := by omega
            simp [hl]
            rw [← List.map_map, ← List.map_map, ← List.map_append, p1 _ _ (by simp)]
            have hdd : (ones.map (eb banks) ++ others.map (eb books)).map (·.1) = dysOf banks books ones others := by rw [List.map_append, comp1, comp1]; rfl
            simp only [hdd, Option.map_some, Option.bind_some]
            simp [max_ints hd, min_ints hd, fitsB, c1, c2, c3', c4]
          · simp only [c4, decide_false, Bool.not_false]
            simp [fitsB, c1, c2, c3', c4]
        obtain ⟨ρ', fin⟩ := fin
        simp [s1, s2, c1, c2, key _ fin]
theorem shaped_same : S__law_shaped = S_is_shaped := rfl
theorem dm_eq (es : List Entry) (ps : List Int) (i : Nat) : True := trivial
theorem due_eq {banks books : List Entry} {span : Int} {ones others : List Int} (h1 : ones.length ≤ 1000) (h2 : others.length ≤ 1000) :
    S__law_due [.list (banks.map eEntry), .list (books.map eEntry), .int span, eP ones others] = some (.bool (fitsB banks books span ones others)) := by
  unfold S__law_due B__law_due
  rw [shaped_same]
  have s1 : S_is_shaped [.tuple (eI ones), .int banks.length] = _ := shaped_t h1
  have s2 : S_is_shaped [.tuple (eI others), .int books.length] = _ := shaped_t h2
  cases c1 : shp ones banks.length with
  | false => simp [s1, c1, fitsB]
  | true =>
    cases c2 : shp others books.length with
    | false => simp [s1, s2, c1, c2, fitsB]
    | true =>
      obtain ⟨n1, l1, m1⟩ := shp_mem c1
      obtain ⟨n2, l2, m2⟩ := shp_mem c2
      by_cases c3 : 1 < ones.length ∧ 1 < others.length
      · have d1 : (1 : Int) < ones.length := by omega
        have d2 : (1 : Int) < others.length := by omega
        simp [s1, s2, c1, c2, fitsB, c3.1, c3.2, d1, d2]
      · have c3' : (decide (1 < ones.length) && decide (1 < others.length)) = false := by simpa using fun h => c3 h
        have hd : (dysOf banks books ones others) ≠ [] := by
          unfold dysOf
          intro z
          exact n1 (by simpa using (List.append_eq_nil_iff.mp z).1)
        have a0 : ∀ (ρ : Dv) , 5 < ρ.length → ρ[0]? = some (some (.list (banks.map eEntry))) → lcGo (tgN 5) yesT (f2 dIx (f2 dIx (vF 0) (vF 5)) (cF (.int 0))) ρ (eI ones) = some (eI (ones.map fun p => (eb banks p).1)) := fun ρ hl h0 => lc_ix2 (fun e => e.1) (fun e => at0) (by decide) hl h0 m1
        have a1 : ∀ (ρ : Dv) , 5 < ρ.length → ρ[0]? = some (some (.list (banks.map eEntry))) → lcGo (tgN 5) yesT (f2 dIx (f2 dIx (vF 0) (vF 5)) (cF (.int 1))) ρ (eI ones) = some (eI (ones.map fun p => (eb banks p).2)) := fun ρ hl h0 => lc_ix2 (fun e => e.2) (fun e => at1) (by decide) hl h0 m1
        have b0 : ∀ (ρ : Dv) , 5 < ρ.length → ρ[1]? = some (some (.list (books.map eEntry))) → lcGo (tgN 5) yesT (f2 dIx (f2 dIx (vF 1) (vF 5)) (cF (.int 0))) ρ (eI others) = some (eI (others.map fun p => (eb books p).1)) := fun ρ hl h0 => lc_ix2 (fun e => e.1) (fun e => at0) (by decide) hl h0 m2
        have b1 : ∀ (ρ : Dv) , 5 < ρ.length → ρ[1]? = some (some (.list (books.map eEntry))) → lcGo (tgN 5) yesT (f2 dIx (f2 dIx (vF 1) (vF 5)) (cF (.int 1))) ρ (eI others) = some (eI (others.map fun p => (eb books p).2)) := fun ρ hl h0 => lc_ix2 (fun e => e.2) (fun e => at1) (by decide) hl h0 m2
        have hdd : eI (ones.map fun p => (eb banks p).1) ++ eI (others.map fun p => (eb books p).1) = eI (dysOf banks books ones others) := by unfold eI dysOf; rw [List.map_append]
        have hl : (eI (ones.map fun p => (eb banks p).1)).length + (eI (others.map fun p => (eb books p).1)).length ≤ 16777216 := by simp [eI]; omega
        have key : ∀ B : Bs, ((ifS (andT (asB (f2 dGt (fL dLen (consA (f2 dIx (vF 3) (cF (.int 0))) nilA)) (cF (.int 1)))) (asB (f2 dGt (fL dLen (consA (f2 dIx (vF 3) (cF (.int 1))) nilA)) (cF (.int 1))))) (retS (cF (.bool false))) nopS) [some (.list (banks.map eEntry)), some (.list (books.map eEntry)), some (.int span), some (eP ones others), none, none, none]) = some (.nx [some (.list (banks.map eEntry)), some (.list (books.map eEntry)), some (.int span), some (eP ones others), none, none, none]) := by
          intro _
          by_cases d1 : (1 : Int) < ones.length <;> by_cases d2 : (1 : Int) < others.length <;> first | exact absurd ⟨by omega, by omega⟩ c3 | simp [d1, d2]
        have s1' : ∀ B B' : Bs, (ifS (orT (notT (asB (fL S_is_shaped (consA (f2 dIx (vF 3) (cF (.int 0))) (consA (fL dLen (consA (vF 0) nilA)) nilA))))) (notT (asB (fL S_is_shaped (consA (f2 dIx (vF 3) (cF (.int 1))) (consA (fL dLen (consA (vF 1) nilA)) nilA)))))) B nopS) [some (.list (banks.map eEntry)), some (.list (books.map eEntry)), some (.int span), some (eP ones others), none, none, none] = some (.nx [some (.list (banks.map eEntry)), some (.list (books.map eEntry)), some (.int span), some (eP ones others), none, none, none]) := by
          intro B _
          simp [s1, s2, c1, c2]
        rw [e_runF]
        simp only [e_env0, List.length_cons, List.length_nil, if_true, List.map_cons, List.map_nil, List.cons_append, List.nil_append, List.replicate]
        rw [e_seqS, s1' _ nopS]
        simp only []
        rw [e_seqS, key nopS]
        simp only [e_seqS, e_setS, e_f2, e_lstF, e_lcF, e_seqA, e_vF, e_cF, List.getElem?_cons_succ, List.getElem?_cons_zero, Option.join_some, Option.bind_some, Option.map_some, e_wipeC, e_wipeN, e_dIxT, at0, at1]
        rw [a0 _ (by simp) rfl, b0 _ (by simp) rfl]
        simp only [Option.bind_some, Option.map_some, e_dAddL, hl, if_true, hdd, e_fL, e_consA, e_nilA, e_lstF, e_lcF, e_seqA, e_f2, e_vF, e_cF, List.getElem?_cons_succ, List.getElem?_cons_zero, Option.join_some, e_wipeC, e_wipeN, e_dIxT, at0, at1, List.set_cons_succ, List.set_cons_zero]
        rw [a1 _ (by simp) rfl, b1 _ (by simp) rfl]
        simp only [Option.bind_some, Option.map_some, sum_ints, e_dSub]
        by_cases c4 : (ones.map fun p => (eb banks p).2).sum = (others.map fun p => (eb books p).2).sum
        · have c5 : (ones.map fun p => (eb banks p).2).sum - (others.map fun p => (eb books p).2).sum = 0 := by omega
          simp [c5, max_ints hd, min_ints hd, fitsB, c1, c2, c3', c4]
        · have c5 : ¬ ((ones.map fun p => (eb banks p).2).sum - (others.map fun p => (eb books p).2).sum = 0) := by omega
          simp [c5, fitsB, c1, c2, c3', c4]
/-! ### marks -/
def markD (p : Str × Int) : PyData := .tuple [.str p.1, .int p.2]
def marksI (ones others : List Int) : List (Str × Int) := ones.map (fun p => (("bank" : Str), p)) ++ others.map (fun p => (("book" : Str), p))
theorem lc_mk {ps : List Int} {i : Nat} {ρ : Dv} (t : Str) (hi : i < ρ.length) : lcGo (tgN i) yesT (tupF (consA (cF (.str t)) (consA (vF i) nilA))) ρ (eI ps) = some ((ps.map fun p => (t, p)).map markD) := by
  rw [lc_map PyData.int (fun p => markD (t, p)) ps fun p hp => by simp [hi, markD]]
  simp
theorem marks_of_eq {ones others : List Int} (h1 : ones.length ≤ 1000) (h2 : others.length ≤ 1000) : S_marks_of [eP ones others] = some (.list ((marksI ones others).map markD)) := by
  unfold S_marks_of B_marks_of
  have hl : ones.length + others.length ≤ 16777216 := by omega
  simp [lc_mk, marksI, hl]
theorem eqv_markD (a b : Str × Int) : PyData.eqv (markD a) (markD b) = decide (a = b) := by
  obtain ⟨a1, a2⟩ := a
  obtain ⟨b1, b2⟩ := b
  simp only [markD, PyData.eqv, PyData.eqvAll, Bool.and_true]
  rw [Bool.eq_iff_iff]
  simp
theorem depth_markD (m : Str × Int) : (markD m).depth = 1 := by simp [markD, PyData.depth, PyData.depthAll]
/-! ### the law's places -/
def plR (size count : Int) (s : Int × List Int × List Int × Option PyData) : Dv := [some (.int s.1), some (.int size), some (.int count), some (.list (eI s.2.1)), some (.list (eI s.2.2.1)), s.2.2.2]
def plStep (s : Int × List Int × List Int × Option PyData) (k : Nat) : Int × List Int × List Int × Option PyData :=
  (s.1 / 7, s.2.1.eraseIdx (s.1 % s.2.1.length).toNat, s.2.2.1 ++ [s.2.1.getD (s.1 % s.2.1.length).toNat 0], some (.int k))
@[simp] theorem e_appPopS {i j : Nat} {F : Fd} {ρ : Dv} : appPopS i j F ρ = (match dvGet ρ i, dvGet ρ j, F ρ with
  | some (.list ds), some (.list es), some (.int n) => if ds.length < 16777216 ∧ 0 ≤ n ∧ n < 16777216 then match es[n.toNat]? with
      | some d => some (.nx ((ρ.set j (some (.list (es.eraseIdx n.toNat)))).set i (some (.list (ds ++ [d])))))
      | none => none
    else none
  | _, _, _ => none) := rfl
@[simp] theorem e_lrF {F : Fd} {ρ : Dv} : lrF F ρ = (match F ρ with
  | some (.int n) => if 0 ≤ n ∧ n ≤ 16777216 then some (upFrom 0 n.toNat) else none
  | _ => none) := rfl
theorem upFrom_ints (n : Nat) : upFrom 0 n = eI ((List.range n).map fun k : Nat => (k : Int)) := by
  unfold upFrom eI
  simp
theorem map_eraseIdx {α β : Type} (f : α → β) : ∀ (xs : List α) (i : Nat), (xs.map f).eraseIdx i = (xs.eraseIdx i).map f
  | [], _ => by simp
  | _ :: _, 0 => by simp
  | x :: xs, i + 1 => by simp [map_eraseIdx f xs i]
theorem places_eq (cell size count : Int) (h1 : 1 ≤ size) (h2 : size ≤ 60) (h3 : 0 ≤ count) : ∃ ps : List Int, S__law_places [.int cell, .int size, .int count] = some (.list (eI ps)) ∧ (ps.length : Int) ≤ size := by
  unfold S__law_places B__law_places
  obtain ⟨n, hn⟩ : ∃ n : Nat, (if size < count then size else count) = n := ⟨(if size < count then size else count).toNat, by split <;> omega⟩
  have hn2 : (n : Int) ≤ size := by rw [← hn]; split <;> omega
  have go := for_go (tgt := tgN 5) (B := (seqS (appPopS 4 3 (f2 dMod (vF 0) (fL dLen (consA (vF 3) nilA)))) (setS 0 (f2 dDiv (vF 0) (cF (.int 7)))))) (fun k : Nat => PyData.int (0 + k)) (plR size count) plStep
    (fun pre s => (s.2.1.length : Int) = size - pre.length ∧ s.2.2.1.length = pre.length) (List.range n) (fun pre x post s hall hs => ?_) [] (List.range n) (cell, (List.range size.toNat).map (fun k : Nat => (k : Int)), [], none) rfl (by simp; omega)
  · obtain ⟨g1, g2⟩ := go
    generalize List.foldl plStep (cell, (List.range size.toNat).map (fun k : Nat => (k : Int)), [], none) (List.range n) = fin at g1 g2
    obtain ⟨ys, hy, hyl⟩ := sort_ints fin.2.2.1
    have hlen := g2.2
    rw [List.length_range] at hlen
    refine ⟨ys, ?_, by omega⟩
    have e1 : upFrom 0 n = (List.range n).map (fun k : Nat => PyData.int (0 + k)) := rfl
    have e2 : upFrom 0 size.toNat = eI ((List.range size.toNat).map fun k : Nat => (k : Int)) := upFrom_ints _
    have e3 : dMin [PyData.int count, PyData.int size] = some (.int n) := by rw [← hn]; rfl
    simp [h1, h2, show 0 ≤ size by omega, show size ≤ 16777216 by omega, e3, show (n : Int) ≤ 16777216 by omega, show -16777216 ≤ (n : Int) by omega]
    rw [e1, e2]
    have g1' := g1
    unfold plR at g1' 
    simp only [eI, List.map_nil] at g1' ⊢
    rw [g1']
    simp
    rw [show dSorted [.list (fin.2.2.1.map PyData.int)] = _ from hy]
    rfl
  · obtain ⟨c, left, here, kk⟩ := s
    obtain ⟨hs1, hs2⟩ := hs
    simp only at hs1 hs2
    have hpx : pre.length < n := by
      have := congrArg List.length hall
      simp at this
      omega
    have hpos : (0 : Int) < left.length := by omega
    have hm0 := Int.emod_nonneg c (b := left.length) (by omega)
    have hm1 := Int.emod_lt_of_pos c hpos
    have hk : (c % (left.length : Int)).toNat < left.length := by omega
    obtain ⟨v, hv⟩ : ∃ v, left[(c % (left.length : Int)).toNat]? = some v := ⟨_, List.getElem?_eq_getElem hk⟩
    have hpos' : 0 < left.length := by omega
    refine ⟨⟨?_, ?_⟩, .inl ?_⟩
    · simp only [plStep, List.length_eraseIdx, List.length_append, List.length_singleton]
      rw [if_pos hk]
      omega
    · simp [plStep, hs2]
    · have hsm : here.length < 16777216 := by omega
      simp [plR, plStep, hpos, hpos', hm0, show c % (left.length : Int) < 16777216 by omega, hsm, hv, map_eraseIdx, eI]
end Dat
open PySem PySem.Spec PyProof.Rows L2
namespace Dat
theorem runF_eq {n k : Nat} {B : Bs} {ds : List PyData} (h : ds.length = k) : runF n k B ds = (match B (env0 n ds) with | some (.ret d _) => some d | some (.nx _) => some .none | _ => none) := by
  rw [e_runF, if_pos h] <;> rfl
/-! ### cuts -/
def cutI {α : Type} (xs : List α) (lo hi : Option Int) : List α := (xs.drop (HT.sIx xs.length 0 lo)).take (HT.sIx xs.length xs.length hi - HT.sIx xs.length 0 lo)
theorem cut_map {α : Type} (f : α → PyData) (xs : List α) (lo hi : Option Int) : cutD (xs.map f) lo hi = (cutI xs lo hi).map f := by
  unfold cutD cutI
  rw [List.length_map, List.map_take, List.map_drop]
theorem cut_len {α : Type} (xs : List α) (lo hi : Option Int) : (cutI xs lo hi).length ≤ xs.length := by
  unfold cutI
  rw [List.length_take, List.length_drop]
  omega
@[simp] theorem e_slL {xs : List PyData} {lo hi : Option Int} : dSl (.list xs) lo hi = some (.list (cutD xs lo hi)) := rfl
theorem bent_eq (ps : List Int) (way size : Int) (h : ps.length ≤ 60) : ∃ qs : List Int, S__law_bent [.list (eI ps), .int way, .int size] = some (.list (eI qs)) ∧ qs.length ≤ 1000 := by
  unfold S__law_bent B__law_bent
  have cl := fun lo hi => cut_len ps lo hi
  have hlen : (eI ps).length = ps.length := by simp [eI]
  by_cases w1 : way = 1 ∧ (0 : Int) < ps.length
  · obtain ⟨qs, hq, ql⟩ := sort_ints (ps ++ cutI ps none (some 1))
    have c1 := cl none (some 1)
    have hm : eI ps ++ cutD (eI ps) none (some 1) = eI (ps ++ cutI ps none (some 1)) := by simp [eI, cut_map]
    have hl : ps.length + (cutD (eI ps) none (some 1)).length ≤ 16777216 := by rw [eI, cut_map, List.length_map]; omega
    refine ⟨qs, ?_, by rw [ql, List.length_append]; omega⟩
    rw [runF_eq (k := 3) (ds := [PyData.list (eI ps), .int way, .int size]) rfl, show env0 3 [PyData.list (eI ps), .int way, .int size] = [some (.list (eI ps)), some (.int way), some (.int size)] from rfl]
    simp only [e_seqS, e_ifS, if_true, e_andT, e_asB, e_f2, e_vF, e_cF, e_fL, e_consA, e_nilA, List.getElem?_cons_succ, List.getElem?_cons_zero, Option.join_some, Option.bind_some, Option.map_some, e_eqI, e_lenL, e_dGt, hlen, w1.1, w1.2, decide_true, e_retS, e_lstF, e_slF, e_noP, e_someP, e_slL, e_dAddL, hl, hm, hq]
  · have hc : ∀ B : Bs, (ifS (andT (asB (f2 dEq (vF 1) (cF (.int 1)))) (asB (f2 dGt (fL dLen (consA (vF 0) nilA)) (cF (.int 0))))) B nopS) [some (.list (eI ps)), some (.int way), some (.int size)] = some (.nx [some (.list (eI ps)), some (.int way), some (.int size)]) := by
      intro B
      by_cases v1 : way = 1
      · have v2 : ¬ ((0 : Int) < ps.length) := fun z => w1 ⟨v1, z⟩
        simp [v1, hlen, v2, show ¬ 0 < ps.length by omega]
      · simp [v1]
    by_cases w2 : way = 2 ∧ (1 : Int) < ps.length
    · have c1 := cl none (some 1)
      have c2 := cl (some 1) none
      have hl : (cutI ps (some 1) none).length + (cutI ps none (some 1)).length ≤ 16777216 := by omega
      refine ⟨cutI ps (some 1) none ++ cutI ps none (some 1), ?_, by rw [List.length_append]; omega⟩
      rw [runF_eq (k := 3) (ds := [PyData.list (eI ps), .int way, .int size]) rfl, show env0 3 [PyData.list (eI ps), .int way, .int size] = [some (.list (eI ps)), some (.int way), some (.int size)] from rfl]
      rw [e_seqS, hc]
      simp [hlen, w2.1, w2.2, cut_map, eI, hl]
    · have hc2 : ∀ B : Bs, (ifS (andT (asB (f2 dEq (vF 1) (cF (.int 2)))) (asB (f2 dGt (fL dLen (consA (vF 0) nilA)) (cF (.int 1))))) B nopS) [some (.list (eI ps)), some (.int way), some (.int size)] = some (.nx [some (.list (eI ps)), some (.int way), some (.int size)]) := by
        intro B
        by_cases v1 : way = 2
        · have v2 : ¬ ((1 : Int) < ps.length) := fun z => w2 ⟨v1, z⟩
          simp [v1, hlen, v2, show ¬ 1 < ps.length by omega]
        · simp [v1]
      have hl1 : ps.length + 1 ≤ 16777216 := by omega
      have hl2 : 1 + ps.length ≤ 16777216 := by omega
      have base : ∀ qs, (match (seqS (ifS (asB (f2 dEq (vF 1) (cF (.int 3)))) (retS (f2 dAdd (vF 0) (lstF (few (consA (vF 2) nilA))))) nopS) (seqS (ifS (asB (f2 dEq (vF 1) (cF (.int 4)))) (retS (f2 dAdd (lstF (few (consA (f1 dNeg (cF (.int 1))) nilA))) (vF 0))) nopS) (retS (vF 0)))) [some (.list (eI ps)), some (.int way), some (.int size)] with
          | some (.ret d _) => some d | some (.nx _) => some PyData.none | _ => none) = some (.list (eI qs)) → S__law_bent [.list (eI ps), .int way, .int size] = some (.list (eI qs)) := by
        intro qs h
        unfold S__law_bent B__law_bent
        rw [runF_eq (k := 3) (ds := [PyData.list (eI ps), .int way, .int size]) rfl, show env0 3 [PyData.list (eI ps), .int way, .int size] = [some (.list (eI ps)), some (.int way), some (.int size)] from rfl]
        rw [e_seqS, hc]
        simp only []
        rw [e_seqS, hc2]
        exact h
      by_cases w3 : way = 3
      · refine ⟨ps ++ [size], base _ ?_, by simp; omega⟩
        simp [w3, hlen, hl1, eI]
      · by_cases w4 : way = 4
        · refine ⟨-1 :: ps, base _ ?_, by simp; omega⟩
          simp [w4, hlen, hl2, eI]
        · refine ⟨ps, base _ ?_, by omega⟩
          simp [w3, w4]
/-! ### made even -/
def farP (n p : Int) : Bool := !(decide (0 ≤ p) && decide (p < n))
theorem set_cut {α : Type} (xs : List α) (a : Int) (x : α) (h0 : 0 ≤ a) (h1 : a < xs.length) : (cutI xs none (some a) ++ [x] ++ cutI xs (some (a + 1)) none).length = xs.length := by
  obtain ⟨k, rfl⟩ : ∃ k : Nat, a = k := ⟨a.toNat, by omega⟩
  unfold cutI
  rw [show ((k : Int) + 1) = ((k + 1 : Nat) : Int) by omega, HT.sIx_nat, HT.sIx_nat, HT.sIx_none, HT.sIx_none]
  simp
  omega
theorem sl_list {ps : List Int} : True := trivial
@[simp] theorem e_slT1 {x : PyData} {xs : List PyData} : dSl (.tuple (x :: xs)) (some 1) none = some (.tuple xs) := by
  have h : ∀ n : Nat, HT.sIx n 0 (some 1) = min 1 n := fun n => HT.sIx_nat n 0 1
  show (if ¬ (HT.sIx (x :: xs).length 0 (some 1) = 0 ∧ HT.sIx (x :: xs).length (x :: xs).length none = (x :: xs).length) then some (PyData.tuple (cutD (x :: xs) (some 1) none)) else none) = _
  unfold cutD
  simp only [h, HT.sIx_none]
  simp
theorem even_eq {banks books : List Entry} {ones others : List Int} {way : Int} (h1 : ones.length ≤ 1000) (h2 : others.length ≤ 1000) (hb : banks.length ≤ 1000) :
    ∃ banks' : List Entry, S__law_made_even [.list (banks.map eEntry), .list (books.map eEntry), eP ones others, .int way] = some (.list (banks'.map eEntry)) ∧ banks'.length = banks.length := by
  unfold S__law_made_even B__law_made_even
  have hfar : ∀ ρ : Dv, 5 < ρ.length → ρ[1]? = some (some (.list (books.map eEntry))) → lcGo (tgN 5) (notT (asB (chF dLe dLt (cF (.int 0)) (vF 5) (fL dLen (consA (vF 1) nilA))))) (vF 5) ρ (eI others) = some (eI (others.filter (farP books.length))) := by
    intro ρ hl h0
    refine lc_filter PyData.int PyData.int (farP books.length) others fun p hp => ⟨ρ.set 5 (some (.int p)), rfl, ?_, fun _ => by simp [hl]⟩
    by_cases q1 : 0 ≤ p <;> by_cases q2 : p < books.length <;> simp [farP, hl, h0, q1, q2, List.getElem?_set_ne]
  generalize hff : (others.filter (farP books.length)) = far at hfar
  rw [e_runF]
  simp only [e_env0, List.length_cons, List.length_nil, if_true, List.map_cons, List.map_nil, List.cons_append, List.nil_append, List.replicate, e_seqS, e_setS, e_lstF, e_lcF, e_seqA, e_f2, e_vF, e_cF, List.getElem?_cons_succ, List.getElem?_cons_zero, Option.join_some, Option.bind_some, Option.map_some, e_wipeC, e_wipeN, e_dIxT, at0, at1]
  rw [hfar _ (by simp) rfl]
  have s1 : S_is_shaped [.tuple (eI ones), .int banks.length] = _ := shaped_t h1
  unfold T__law_made_even_1
  rw [shaped_same]
  by_cases w0 : way = 0
  · exact ⟨banks, by simp [w0], rfl⟩
  · cases far with
    | cons f r => exact ⟨banks, by simp [w0, eI], rfl⟩
    | nil =>
      cases c1 : shp ones banks.length with
      | false => exact ⟨banks, by simp [w0, eI, s1, c1], rfl⟩
      | true =>
        obtain ⟨n1, l1, m1⟩ := shp_mem c1
        have m2 : ∀ p, p ∈ others → 0 ≤ p ∧ p < books.length := by
          intro p hp
          have := List.filter_eq_nil_iff.mp hff p hp
          simpa [farP] using this
        obtain ⟨a, r, rfl⟩ : ∃ a r, ones = a :: r := by cases ones with | nil => exact absurd rfl n1 | cons a r => exact ⟨a, r, rfl⟩
        have ha := m1 a (by simp)
        have mr : ∀ p, p ∈ r → 0 ≤ p ∧ p < banks.length := fun p hp => m1 p (by simp [hp])
        have a1 : ∀ (ρ : Dv) , 5 < ρ.length → ρ[0]? = some (some (.list (banks.map eEntry))) → lcGo (tgN 5) yesT (f2 dIx (f2 dIx (vF 0) (vF 5)) (cF (.int 1))) ρ (eI r) = some (eI (r.map fun p => (eb banks p).2)) := fun ρ hl h0 => lc_ix2 (fun e => e.2) (fun e => at1) (by decide) hl h0 mr
        have b1 : ∀ (ρ : Dv) , 5 < ρ.length → ρ[1]? = some (some (.list (books.map eEntry))) → lcGo (tgN 5) yesT (f2 dIx (f2 dIx (vF 1) (vF 5)) (cF (.int 1))) ρ (eI others) = some (eI (others.map fun p => (eb books p).2)) := fun ρ hl h0 => lc_ix2 (fun e => e.2) (fun e => at1) (by decide) hl h0 m2
        have key : ∃ (banks' : List Entry) (ρ' : Dv), T__law_made_even_2 [some (.list (banks.map eEntry)), some (.list (books.map eEntry)), some (eP (a :: r) others), some (.int way), some (.list (eI [])), none, none, none] = some (.ret (.list (banks'.map eEntry)) ρ') ∧ banks'.length = banks.length := by
          have fin : ∀ (total : Int), ∃ (banks' : List Entry) (ρ' : Dv), T__law_made_even_5 [some (.list (banks.map eEntry)), some (.list (books.map eEntry)), some (eP (a :: r) others), some (.int way), some (.list (eI [])), none, some (.int a), some (.int total)] = some (.ret (.list (banks'.map eEntry)) ρ') ∧ banks'.length = banks.length := by
            intro total
            unfold T__law_made_even_5 T__law_made_even_6
            by_cases t0 : total = 0
            · exact ⟨banks, [some (.list (banks.map eEntry)), some (.list (books.map eEntry)), some (eP (a :: r) others), some (.int way), some (.list (eI [])), none, some (.int a), some (.int total)], by simp [t0], rfl⟩
            · refine ⟨cutI banks none (some a) ++ [((eb banks a).1, total)] ++ cutI banks (some (a + 1)) none, [some (.list (banks.map eEntry)), some (.list (books.map eEntry)), some (eP (a :: r) others), some (.int way), some (.list (eI [])), none, some (.int a), some (.int total)], ?_, set_cut banks a _ ha.1 ha.2⟩
              have k1 := cut_len banks none (some a)
              have k2 := cut_len banks (some (a + 1)) none
              have k3 : (cutI banks none (some a)).length + 1 ≤ 16777216 := by omega
              have k4 : (cutI banks none (some a)).length + (0 + 1) + (cutI banks (some (a + 1)) none).length ≤ 16777216 := by omega
              have k5 : (cutI banks none (some a)).length + ((cutI banks (some (a + 1)) none).length + 1) ≤ 16777216 := by omega
              simp [t0, eb_at ha, cut_map, k3, k4, k5]
              simp [eEntry, k3, k4, k5]
              try rfl
          unfold T__law_made_even_2 T__law_made_even_3 T__law_made_even_4
          simp only [e_seqS, e_setS, e_lstF, e_lcF, e_seqA, e_f2, e_fL, e_consA, e_nilA, e_vF, e_cF, e_slF, e_someP, e_noP, List.getElem?_cons_succ, List.getElem?_cons_zero, Option.join_some, Option.bind_some, Option.map_some, e_wipeC, e_wipeN, e_dIxT, at0, at1, List.set_cons_succ, List.set_cons_zero, eI, List.map_cons, e_slT1]
          rw [show others.map PyData.int = eI others from rfl, show r.map PyData.int = eI r from rfl, b1 _ (by simp) rfl, a1 _ (by simp) rfl]
          simp only [Option.bind_some, Option.map_some, sum_ints, e_dSub]
          by_cases w3 : way = 3
          · obtain ⟨bk, ρ', hf, hl⟩ := fin ((others.map fun p => (eb books p).2).sum - (r.map fun p => (eb banks p).2).sum + 1)
            refine ⟨bk, ρ', ?_, hl⟩
            rw [← hf]
            subst w3
            simp [eI]
          · obtain ⟨bk, ρ', hf, hl⟩ := fin ((others.map fun p => (eb books p).2).sum - (r.map fun p => (eb banks p).2).sum)
            refine ⟨bk, ρ', ?_, hl⟩
            rw [← hf]
            simp [eI, w3]
        obtain ⟨bk, ρ', hk, hl⟩ := key
        refine ⟨bk, ?_, hl⟩
        simp only [eI, List.map_nil, List.map_cons] at hk s1 c1
        simp [w0, eI, s1, c1, hk]
end Dat
open PySem PySem.Spec PyProof.Rows L2
namespace Dat
def cellI (ns : List Int) (i : Int) : Int := ns.getD i.toNat 0
theorem cell_at (ns : List Int) (i : Int) (hi : 0 ≤ i) : S__law_cell_at [.list (ns.map .int), .int i] = some (.int (cellI ns i)) := by
  unfold S__law_cell_at B__law_cell_at cellI
  obtain ⟨k, rfl⟩ : ∃ k : Nat, i = k := ⟨i.toNat, by omega⟩
  by_cases h : k < ns.length
  · have h' : (k : Int) < ns.length := by omega
    have h2 : atI (ns.map PyData.int) (k : Int) = some (.int (ns.getD k 0)) := atI_nat (by simp [List.getElem?_eq_getElem h, List.getD_eq_getElem?_getD])
    simp [h', h2]
  · have h' : ¬ (k : Int) < ns.length := by omega
    simp [h', List.getElem?_eq_none (Nat.le_of_not_lt h)]
/-! ### the law -/
def entryM (c : Int) (far : Bool) (scale : Int) : Entry := (if far then ((5000 + c % 40) * (1 + c / 240 % 2)) % 10000 else c % 6,
  (if c / 6 % 6 = 0 then 1 else if c / 6 % 6 = 1 then 2 else if c / 6 % 6 = 2 then 3 else if c / 6 % 6 = 3 then -1 else if c / 6 % 6 = 4 then -2 else -3) * scale)
theorem at3 {α : Type} {a b c d : α} {r : List α} : atI (a :: b :: c :: d :: r) 3 = some d := atI_nat (j := 3) rfl
theorem at4 {α : Type} {a b c d e : α} {r : List α} : atI (a :: b :: c :: d :: e :: r) 4 = some e := atI_nat (j := 4) rfl
theorem at5 {α : Type} {a b c d e f : α} {r : List α} : atI (a :: b :: c :: d :: e :: f :: r) 5 = some f := atI_nat (j := 5) rfl
theorem entry_eq (c : Int) (far : Bool) (scale : Int) : S__law_entry [.int c, .bool far, .int scale] = some (eEntry (entryM c far scale)) := by
  unfold S__law_entry B__law_entry
  have h1 : -(2 ^ 64) < 5000 + c % 40 ∧ 5000 + c % 40 < 2 ^ 64 := by omega
  have h6 : c / 6 % 6 = 0 ∨ c / 6 % 6 = 1 ∨ c / 6 % 6 = 2 ∨ c / 6 % 6 = 3 ∨ c / 6 % 6 = 4 ∨ c / 6 % 6 = 5 := by omega
  simp at h1
  cases far <;> rcases h6 with h | h | h | h | h | h <;> simp [h, h1, at3, at4, at5, entryM, eEntry]
theorem pairs_at (k : Int) (h0 : 0 ≤ k) (h1 : k < 10) : ∃ a b : Int, atI [PyData.tuple [.int 1, .int 1], .tuple [.int 1, .int 2], .tuple [.int 1, .int 3], .tuple [.int 2, .int 1], .tuple [.int 3, .int 1], .tuple [.int 2, .int 2], .tuple [.int 1, .int 4], .tuple [.int 0, .int 1], .tuple [.int 2, .int 2], .tuple [.int 1, .int 1]] k = some (.tuple [.int a, .int b]) ∧ 0 ≤ a ∧ 0 ≤ b := by
  obtain ⟨n, rfl⟩ : ∃ n : Nat, k = n := ⟨k.toNat, by omega⟩
  have hn : n < 10 := by omega
  match n, hn with
  | 0, _ => exact ⟨_, _, atI_nat (j := 0) rfl, by decide, by decide⟩
  | 1, _ => exact ⟨_, _, atI_nat (j := 1) rfl, by decide, by decide⟩
  | 2, _ => exact ⟨_, _, atI_nat (j := 2) rfl, by decide, by decide⟩
  | 3, _ => exact ⟨_, _, atI_nat (j := 3) rfl, by decide, by decide⟩
  | 4, _ => exact ⟨_, _, atI_nat (j := 4) rfl, by decide, by decide⟩
  | 5, _ => exact ⟨_, _, atI_nat (j := 5) rfl, by decide, by decide⟩
  | 6, _ => exact ⟨_, _, atI_nat (j := 6) rfl, by decide, by decide⟩
  | 7, _ => exact ⟨_, _, atI_nat (j := 7) rfl, by decide, by decide⟩
  | 8, _ => exact ⟨_, _, atI_nat (j := 8) rfl, by decide, by decide⟩
  | 9, _ => exact ⟨_, _, atI_nat (j := 9) rfl, by decide, by decide⟩
section
variable (v0 v1 v2 : Option PyData) (span m1 m2 : Int) (v6 v8 v9 : Option PyData)
theorem t17 {banks books : List Entry} {ones others : List Int} (v11 : Option PyData) (h1 : ones.length ≤ 1000) (h2 : others.length ≤ 1000) :
    ∃ ρ', T_law_17 [v0, v1, v2, some (.int span), some (.tuple [.int m1, .int m2]), some (.list (banks.map eEntry)), v6, some (.list (books.map eEntry)), v8, v9, some (.list (eI ones)), v11, some (.list (eI others)), some (eP ones others), some (.list (banks.map eEntry)), some (.list (books.map eEntry)), some (.bool (fitsB banks books span ones others)), none, none, none, none] = some (.ret (.bool true) ρ') := by
  unfold T_law_17 T_law_18 T_law_19
  have d := due_eq (banks := banks) (books := books) (span := span) h1 h2
  have s1 : S_is_shaped [.list (eI ones), .int m1] = _ := shaped_l h1
  have s2 : S_is_shaped [.list (eI others), .int m2] = _ := shaped_l h2
  rw [shaped_same]
  have go : ∃ ρ', T_law_20 [v0, v1, v2, some (.int span), some (.tuple [.int m1, .int m2]), some (.list (banks.map eEntry)), v6, some (.list (books.map eEntry)), v8, v9, some (.list (eI ones)), v11, some (.list (eI others)), some (eP ones others), some (.list (banks.map eEntry)), some (.list (books.map eEntry)), some (.bool (fitsB banks books span ones others)), none, none, none, none] = some (.ret (.bool true) ρ') := by
    unfold T_law_20 T_law_21 T_law_22
    have hl : ones.length + others.length ≤ 16777216 := by omega
    have e := eq_lists eqv_markD depth_markD (marksI ones others) (marksI ones others)
    have hf : ∀ ρ : Dv, 20 < ρ.length → lcGo (tgN 20) (notT (asB (f1 (dIsi PyData.isTuple) (vF 20)))) (vF 20) ρ ((marksI ones others).map markD) = some [] := by
      intro ρ hl
      rw [lc_filter markD markD (fun _ => false) (marksI ones others) fun x hx => ⟨ρ.set 20 (some (markD x)), rfl, by simp [hl]; rfl, fun z => nomatch z⟩]
      simp
    have hm : ∀ x y : List PyData, x = (ones.map fun p => (("bank" : Str), p)).map markD → y = (others.map fun p => (("book" : Str), p)).map markD → x ++ y = (marksI ones others).map markD := by
      rintro _ _ rfl rfl; simp [marksI]
    simp only [e_seqS, e_setS, e_fL, e_consA, e_nilA, e_f2, e_lstF, e_lcF, e_seqA, e_vF, e_wipeC, e_wipeN, List.getElem?_cons_succ, List.getElem?_cons_zero, Option.join_some, Option.bind_some, Option.map_some, List.set_cons_succ, List.set_cons_zero, marks_of_eq h1 h2]
    rw [lc_mk _ (by simp), lc_mk _ (by simp)]
    simp only [Option.bind_some, Option.map_some, e_dAddL, List.length_map, hl, if_true, hm _ _ rfl rfl]
    simp [hf, e]
  obtain ⟨ρ', go⟩ := go
  have n1 := ne_lists eqv_entry depth_entry banks banks
  have n2 := ne_lists eqv_entry depth_entry books books
  simp only [decide_true, Bool.not_true] at n1 n2
  simp only [e_seqS, e_ifS, e_orT, e_notT, e_asB, e_f1, e_f2, e_vF, e_dIsi, e_isBoolB, List.getElem?_cons_succ, List.getElem?_cons_zero, Option.join_some, Option.bind_some, Option.map_some, Bool.not_true, n1, n2, e_nopS, e_fL, e_consA, e_nilA, d, neB, BEq.rfl]
  cases c1 : shp ones m1 with
  | false => exact ⟨[v0, v1, v2, some (.int span), some (.tuple [.int m1, .int m2]), some (.list (banks.map eEntry)), v6, some (.list (books.map eEntry)), v8, v9, some (.list (eI ones)), v11, some (.list (eI others)), some (eP ones others), some (.list (banks.map eEntry)), some (.list (books.map eEntry)), some (.bool (fitsB banks books span ones others)), none, none, none, none], by simp [s1, c1]⟩
  | true =>
    cases c2 : shp others m2 with
    | false => exact ⟨[v0, v1, v2, some (.int span), some (.tuple [.int m1, .int m2]), some (.list (banks.map eEntry)), v6, some (.list (books.map eEntry)), v8, v9, some (.list (eI ones)), v11, some (.list (eI others)), some (eP ones others), some (.list (banks.map eEntry)), some (.list (books.map eEntry)), some (.bool (fitsB banks books span ones others)), none, none, none, none], by simp [s1, s2, c1, c2]⟩
    | true => exact ⟨ρ', by simp [s1, s2, c1, c2, go]⟩
end
theorem law_holds : ∀ ns : List Int, ns.length ≤ 63 → S_law [.list (ns.map .int)] = some (.bool true) := by
  intro ns hns
  generalize hfar : decide (cellI ns 1 % 3 = 1) = far
  generalize hscale : 1 + cellI ns 1 / 3 % 2 * (cellI ns 1 / 6 % (6 * 10 ^ 7)) = scale
  generalize hs1 : 1 + cellI ns 0 % 6 = z1
  generalize hs2 : 1 + cellI ns 0 / 6 % 6 = z2
  have b1 : 1 ≤ z1 ∧ z1 ≤ 6 := by omega
  have b2 : 1 ≤ z2 ∧ z2 ≤ 6 := by omega
  have r1 : z1 ≤ 16777216 := by omega
  have r2 : -16777216 ≤ z1 := by omega
  have r3 : z2 ≤ 16777216 := by omega
  have r4 : -16777216 ≤ z2 := by omega
  generalize hb : (List.range z1.toNat).map (fun k : Nat => entryM (cellI ns (7 + (k : Int))) far scale) = banks
  generalize hk : (List.range z2.toNat).map (fun k : Nat => entryM (cellI ns (13 + (k : Int))) far scale) = books
  have l1 : banks.length ≤ 1000 := by rw [← hb, List.length_map, List.length_range]; omega
  have l2 : books.length ≤ 1000 := by rw [← hk, List.length_map, List.length_range]; omega
  have t4 : ∀ span : Int, ∃ ρ', T_law_4 [some (.list (ns.map .int)), some (.bool far), some (.int scale), some (.int span), none, none, none, none, none, none, none, none, none, none, none, none, none, none, none, none, none] = some (.ret (.bool true) ρ') := by
    intro span
    obtain ⟨a, b, hab, ha, hb2⟩ := pairs_at (cellI ns 3 % 10) (by omega) (by omega)
    obtain ⟨p1, hp1, lp1⟩ := places_eq (cellI ns 4) z1 a b1.1 (by omega) ha
    obtain ⟨p2, hp2, lp2⟩ := places_eq (cellI ns 5) z2 b b2.1 (by omega) hb2
    obtain ⟨ones, ho1, lo1⟩ := bent_eq p1 (cellI ns 6 % 10) z1 (by omega)
    obtain ⟨others, ho2, lo2⟩ := bent_eq p2 (cellI ns 6 / 10 % 8) z2 (by omega)
    obtain ⟨banks', he, le⟩ := even_eq (banks := banks) (books := books) (way := cellI ns 6 / 10 / 8 % 6 % 4) lo1 lo2 l1
    have hfit := fits_eq (banks := banks') (books := books) (span := span) lo1 lo2
    unfold T_law_4 T_law_5
    simp [cell_at, hs1, hs2, r1, r2, r3, r4]
    rw [lc_range 0 _ (fun k : Nat => eEntry (entryM (cellI ns (7 + (k : Int))) far scale)) fun k hk => by
      have h0 : 0 ≤ 7 + (k : Int) := by omega
      simp [cell_at ns _ h0, entry_eq]]
    rw [show (List.range z1.toNat).map (fun k : Nat => eEntry (entryM (cellI ns (7 + (k : Int))) far scale)) = banks.map eEntry by rw [← hb, List.map_map]; rfl]
    simp only [Option.map_some]
    unfold T_law_6
    simp [r1, r2, r3, r4]
    rw [lc_range 0 _ (fun k : Nat => eEntry (entryM (cellI ns (13 + (k : Int))) far scale)) fun k hk => by
      have h0 : 0 ≤ 13 + (k : Int) := by omega
      simp [cell_at ns _ h0, entry_eq]]
    rw [show (List.range z2.toNat).map (fun k : Nat => eEntry (entryM (cellI ns (13 + (k : Int))) far scale)) = books.map eEntry by rw [← hk, List.map_map]; rfl]
    simp only [Option.map_some]
    unfold T_law_7 T_law_8 T_law_9 T_law_10 T_law_11 T_law_12 T_law_13 T_law_14 T_law_15 T_law_16
    simp [cell_at, hab, hp1, hp2, ho1, ho2, he, hfit]
    obtain ⟨ρ', h⟩ := t17 (some (.list (ns.map .int))) (some (.bool far)) (some (.int scale)) span z1 z2 none (some (.list [PyData.tuple [.int 1, .int 1], .tuple [.int 1, .int 2], .tuple [.int 1, .int 3], .tuple [.int 2, .int 1], .tuple [.int 3, .int 1], .tuple [.int 2, .int 2], .tuple [.int 1, .int 4], .tuple [.int 0, .int 1], .tuple [.int 2, .int 2], .tuple [.int 1, .int 1]])) (some (.tuple [.int a, .int b])) (banks := banks') (books := books) (ones := ones) (others := others) (some (.int (cellI ns 6 / 10))) lo1 lo2
    exact ⟨ρ', h⟩
  unfold S_law B_law T_law_1 T_law_2 T_law_3
  have q1 : -(2 ^ 64) < cellI ns 1 / 3 % 2 ∧ cellI ns 1 / 3 % 2 < 2 ^ 64 := by omega
  simp at q1 hscale
  by_cases h31 : cellI ns 2 / 31 % 2 = 1
  · obtain ⟨ρ', h⟩ := t4 (cellI ns 2 % 31 % 4)
    simp [cell_at, hfar, h31, q1, hscale, h]
  · obtain ⟨ρ', h⟩ := t4 (cellI ns 2 % 31)
    simp [cell_at, hfar, h31, q1, hscale, h]
end Dat
open PySem PySem.Spec PyProof.Rows L2
namespace Dat
theorem all_mk {l : PySem.W.OpenLaw} {w : World} {K : PySem.W.Frag} {h : Heap} {mg : Str → Option Value} {fa : Addr} (X : K.In h) (G : h.Ns mainGlobals mg) (hfa : mg "law" = some (.ref fa))
    {f_is_shaped : Addr} {oc_is_shaped kV_is_shaped dc_is_shaped pm_is_shaped cd_is_shaped ct_is_shaped : Value} {od_is_shaped an_is_shaped : Option Addr} {sl_is_shaped : Array (Option Value)}
    {f_fits : Addr} {oc_fits kV_fits dc_fits pm_fits cd_fits ct_fits : Value} {od_fits an_fits : Option Addr} {sl_fits : Array (Option Value)}
    {f_marks_of : Addr} {oc_marks_of kV_marks_of dc_marks_of pm_marks_of cd_marks_of ct_marks_of : Value} {od_marks_of an_marks_of : Option Addr} {sl_marks_of : Array (Option Value)}
    {f__law_cell_at : Addr} {oc__law_cell_at kV__law_cell_at dc__law_cell_at pm__law_cell_at cd__law_cell_at ct__law_cell_at : Value} {od__law_cell_at an__law_cell_at : Option Addr} {sl__law_cell_at : Array (Option Value)}
    {f__law_entry : Addr} {oc__law_entry kV__law_entry dc__law_entry pm__law_entry cd__law_entry ct__law_entry : Value} {od__law_entry an__law_entry : Option Addr} {sl__law_entry : Array (Option Value)}
    {f__law_places : Addr} {oc__law_places kV__law_places dc__law_places pm__law_places cd__law_places ct__law_places : Value} {od__law_places an__law_places : Option Addr} {sl__law_places : Array (Option Value)}
    {f__law_bent : Addr} {oc__law_bent kV__law_bent dc__law_bent pm__law_bent cd__law_bent ct__law_bent : Value} {od__law_bent an__law_bent : Option Addr} {sl__law_bent : Array (Option Value)}
    {f__law_shaped : Addr} {oc__law_shaped kV__law_shaped dc__law_shaped pm__law_shaped cd__law_shaped ct__law_shaped : Value} {od__law_shaped an__law_shaped : Option Addr} {sl__law_shaped : Array (Option Value)}
    {f__law_due : Addr} {oc__law_due kV__law_due dc__law_due pm__law_due cd__law_due ct__law_due : Value} {od__law_due an__law_due : Option Addr} {sl__law_due : Array (Option Value)}
    {f__law_made_even : Addr} {oc__law_made_even kV__law_made_even dc__law_made_even pm__law_made_even cd__law_made_even ct__law_made_even : Value} {od__law_made_even an__law_made_even : Option Addr} {sl__law_made_even : Array (Option Value)}
    {f_law : Addr} {oc_law kV_law dc_law pm_law cd_law ct_law : Value} {od_law an_law : Option Addr} {sl_law : Array (Option Value)}
    {t_MOST : Tok}
    (a_is_shaped : PySem.W.nsIn K mainGlobals "is_shaped" = some (some (.ref f_is_shaped))) (l_is_shaped : K.lookup f_is_shaped = some ⟨oc_is_shaped, od_is_shaped, .func (PySem.W.fnOf "is_shaped" "is_shaped" (defArgs s_is_shaped) (defBody s_is_shaped) (defScope s_is_shaped) .none kV_is_shaped dc_is_shaped pm_is_shaped an_is_shaped cd_is_shaped ct_is_shaped), sl_is_shaped⟩) (c_is_shaped : PySem.W.codeIn K cd_is_shaped "is_shaped" = true) (k_is_shaped : PySem.W.keepIn K (.ref f_is_shaped) = true)
    (a_fits : PySem.W.nsIn K mainGlobals "fits" = some (some (.ref f_fits))) (l_fits : K.lookup f_fits = some ⟨oc_fits, od_fits, .func (PySem.W.fnOf "fits" "fits" (defArgs s_fits) (defBody s_fits) (defScope s_fits) .none kV_fits dc_fits pm_fits an_fits cd_fits ct_fits), sl_fits⟩) (c_fits : PySem.W.codeIn K cd_fits "fits" = true) (k_fits : PySem.W.keepIn K (.ref f_fits) = true)
    (a_marks_of : PySem.W.nsIn K mainGlobals "marks_of" = some (some (.ref f_marks_of))) (l_marks_of : K.lookup f_marks_of = some ⟨oc_marks_of, od_marks_of, .func (PySem.W.fnOf "marks_of" "marks_of" (defArgs s_marks_of) (defBody s_marks_of) (defScope s_marks_of) .none kV_marks_of dc_marks_of pm_marks_of an_marks_of cd_marks_of ct_marks_of), sl_marks_of⟩) (c_marks_of : PySem.W.codeIn K cd_marks_of "marks_of" = true) (k_marks_of : PySem.W.keepIn K (.ref f_marks_of) = true)
    (a__law_cell_at : PySem.W.nsIn K mainGlobals "_law_cell_at" = some (some (.ref f__law_cell_at))) (l__law_cell_at : K.lookup f__law_cell_at = some ⟨oc__law_cell_at, od__law_cell_at, .func (PySem.W.fnOf "_law_cell_at" "_law_cell_at" (defArgs s__law_cell_at) (defBody s__law_cell_at) (defScope s__law_cell_at) .none kV__law_cell_at dc__law_cell_at pm__law_cell_at an__law_cell_at cd__law_cell_at ct__law_cell_at), sl__law_cell_at⟩) (c__law_cell_at : PySem.W.codeIn K cd__law_cell_at "_law_cell_at" = true) (k__law_cell_at : PySem.W.keepIn K (.ref f__law_cell_at) = true)
    (a__law_entry : PySem.W.nsIn K mainGlobals "_law_entry" = some (some (.ref f__law_entry))) (l__law_entry : K.lookup f__law_entry = some ⟨oc__law_entry, od__law_entry, .func (PySem.W.fnOf "_law_entry" "_law_entry" (defArgs s__law_entry) (defBody s__law_entry) (defScope s__law_entry) .none kV__law_entry dc__law_entry pm__law_entry an__law_entry cd__law_entry ct__law_entry), sl__law_entry⟩) (c__law_entry : PySem.W.codeIn K cd__law_entry "_law_entry" = true) (k__law_entry : PySem.W.keepIn K (.ref f__law_entry) = true)
    (a__law_places : PySem.W.nsIn K mainGlobals "_law_places" = some (some (.ref f__law_places))) (l__law_places : K.lookup f__law_places = some ⟨oc__law_places, od__law_places, .func (PySem.W.fnOf "_law_places" "_law_places" (defArgs s__law_places) (defBody s__law_places) (defScope s__law_places) .none kV__law_places dc__law_places pm__law_places an__law_places cd__law_places ct__law_places), sl__law_places⟩) (c__law_places : PySem.W.codeIn K cd__law_places "_law_places" = true) (k__law_places : PySem.W.keepIn K (.ref f__law_places) = true)
    (a__law_bent : PySem.W.nsIn K mainGlobals "_law_bent" = some (some (.ref f__law_bent))) (l__law_bent : K.lookup f__law_bent = some ⟨oc__law_bent, od__law_bent, .func (PySem.W.fnOf "_law_bent" "_law_bent" (defArgs s__law_bent) (defBody s__law_bent) (defScope s__law_bent) .none kV__law_bent dc__law_bent pm__law_bent an__law_bent cd__law_bent ct__law_bent), sl__law_bent⟩) (c__law_bent : PySem.W.codeIn K cd__law_bent "_law_bent" = true) (k__law_bent : PySem.W.keepIn K (.ref f__law_bent) = true)
    (a__law_shaped : PySem.W.nsIn K mainGlobals "_law_shaped" = some (some (.ref f__law_shaped))) (l__law_shaped : K.lookup f__law_shaped = some ⟨oc__law_shaped, od__law_shaped, .func (PySem.W.fnOf "_law_shaped" "_law_shaped" (defArgs s__law_shaped) (defBody s__law_shaped) (defScope s__law_shaped) .none kV__law_shaped dc__law_shaped pm__law_shaped an__law_shaped cd__law_shaped ct__law_shaped), sl__law_shaped⟩) (c__law_shaped : PySem.W.codeIn K cd__law_shaped "_law_shaped" = true) (k__law_shaped : PySem.W.keepIn K (.ref f__law_shaped) = true)
    (a__law_due : PySem.W.nsIn K mainGlobals "_law_due" = some (some (.ref f__law_due))) (l__law_due : K.lookup f__law_due = some ⟨oc__law_due, od__law_due, .func (PySem.W.fnOf "_law_due" "_law_due" (defArgs s__law_due) (defBody s__law_due) (defScope s__law_due) .none kV__law_due dc__law_due pm__law_due an__law_due cd__law_due ct__law_due), sl__law_due⟩) (c__law_due : PySem.W.codeIn K cd__law_due "_law_due" = true) (k__law_due : PySem.W.keepIn K (.ref f__law_due) = true)
    (a__law_made_even : PySem.W.nsIn K mainGlobals "_law_made_even" = some (some (.ref f__law_made_even))) (l__law_made_even : K.lookup f__law_made_even = some ⟨oc__law_made_even, od__law_made_even, .func (PySem.W.fnOf "_law_made_even" "_law_made_even" (defArgs s__law_made_even) (defBody s__law_made_even) (defScope s__law_made_even) .none kV__law_made_even dc__law_made_even pm__law_made_even an__law_made_even cd__law_made_even ct__law_made_even), sl__law_made_even⟩) (c__law_made_even : PySem.W.codeIn K cd__law_made_even "_law_made_even" = true) (k__law_made_even : PySem.W.keepIn K (.ref f__law_made_even) = true)
    (a_law : PySem.W.nsIn K mainGlobals "law" = some (some (.ref f_law))) (l_law : K.lookup f_law = some ⟨oc_law, od_law, .func (PySem.W.fnOf "law" "law" (defArgs s_law) (defBody s_law) (defScope s_law) .none kV_law dc_law pm_law an_law cd_law ct_law), sl_law⟩) (c_law : PySem.W.codeIn K cd_law "law" = true) (k_law : PySem.W.keepIn K (.ref f_law) = true)
    (z_MOST : PySem.W.nsIn K mainGlobals "MOST" = some (some (.int 3 t_MOST)))
    (z_len : PySem.W.nsIn K mainGlobals "len" = some none)
    (z_range : PySem.W.nsIn K mainGlobals "range" = some none)
    (z_sum : PySem.W.nsIn K mainGlobals "sum" = some none)
    (z_max : PySem.W.nsIn K mainGlobals "max" = some none)
    (z_min : PySem.W.nsIn K mainGlobals "min" = some none)
    (z_list : PySem.W.nsIn K mainGlobals "list" = some none)
    (z_sorted : PySem.W.nsIn K mainGlobals "sorted" = some none)
    (z_tuple : PySem.W.nsIn K mainGlobals "tuple" = some none)
    (z_isinstance : PySem.W.nsIn K mainGlobals "isinstance" = some none)
    (z_bool : PySem.W.nsIn K mainGlobals "bool" = some none) :
    ∃ fd : FuncData, (∀ (s : Shared) (v : Value), BindsTo s fd ⟨[v], []⟩ [("_law_script", v)]) ∧ ∀ base : Heap, K.In base → base.Ns mainGlobals mg → FnOk l.prog w K mg base CX0 3 fa fd ["_law_script"] (spD K S_law) := by
  have e := hfa.symm.trans (PySem.W.mg_of X G a_law)
  cases e
  have h_is_shaped := here_mk (x := "is_shaped") (st := s_is_shaped) (ps := ["places", "count"]) X G a_is_shaped l_is_shaped c_is_shaped k_is_shaped (fun _ _ _ _ _ _ us hl => match us, hl with | [_, _], _ => rfl)
  have h_fits := here_mk (x := "fits") (st := s_fits) (ps := ["banks", "books", "span", "match"]) X G a_fits l_fits c_fits k_fits (fun _ _ _ _ _ _ us hl => match us, hl with | [_, _, _, _], _ => rfl)
  have h_marks_of := here_mk (x := "marks_of") (st := s_marks_of) (ps := ["match"]) X G a_marks_of l_marks_of c_marks_of k_marks_of (fun _ _ _ _ _ _ us hl => match us, hl with | [_], _ => rfl)
  have h__law_cell_at := here_mk (x := "_law_cell_at") (st := s__law_cell_at) (ps := ["_law_script", "_law_k"]) X G a__law_cell_at l__law_cell_at c__law_cell_at k__law_cell_at (fun _ _ _ _ _ _ us hl => match us, hl with | [_, _], _ => rfl)
  have h__law_entry := here_mk (x := "_law_entry") (st := s__law_entry) (ps := ["_law_cell", "_law_far", "_law_scale"]) X G a__law_entry l__law_entry c__law_entry k__law_entry (fun _ _ _ _ _ _ us hl => match us, hl with | [_, _, _], _ => rfl)
  have h__law_places := here_mk (x := "_law_places") (st := s__law_places) (ps := ["_law_cell", "_law_size", "_law_count"]) X G a__law_places l__law_places c__law_places k__law_places (fun _ _ _ _ _ _ us hl => match us, hl with | [_, _, _], _ => rfl)
  have h__law_bent := here_mk (x := "_law_bent") (st := s__law_bent) (ps := ["_law_places_here", "_law_way", "_law_size"]) X G a__law_bent l__law_bent c__law_bent k__law_bent (fun _ _ _ _ _ _ us hl => match us, hl with | [_, _, _], _ => rfl)
  have h__law_shaped := here_mk (x := "_law_shaped") (st := s__law_shaped) (ps := ["_law_places_here", "_law_size"]) X G a__law_shaped l__law_shaped c__law_shaped k__law_shaped (fun _ _ _ _ _ _ us hl => match us, hl with | [_, _], _ => rfl)
  have h__law_due := here_mk (x := "_law_due") (st := s__law_due) (ps := ["_law_banks", "_law_books", "_law_span", "_law_match"]) X G a__law_due l__law_due c__law_due k__law_due (fun _ _ _ _ _ _ us hl => match us, hl with | [_, _, _, _], _ => rfl)
  have h__law_made_even := here_mk (x := "_law_made_even") (st := s__law_made_even) (ps := ["_law_banks", "_law_books", "_law_match", "_law_way"]) X G a__law_made_even l__law_made_even c__law_made_even k__law_made_even (fun _ _ _ _ _ _ us hl => match us, hl with | [_, _, _, _], _ => rfl)
  have h_law := here_mk (x := "law") (st := s_law) (ps := ["_law_script"]) X G a_law l_law c_law k_law (fun _ _ _ _ _ _ us hl => match us, hl with | [_], _ => rfl)
  have g_MOST : ∃ t, mg "MOST" = some (.int 3 t) := ⟨_, PySem.W.mg_of X G z_MOST⟩
  have m_len := PySem.W.mg_none_of X G z_len
  have m_range := PySem.W.mg_none_of X G z_range
  have m_sum := PySem.W.mg_none_of X G z_sum
  have m_max := PySem.W.mg_none_of X G z_max
  have m_min := PySem.W.mg_none_of X G z_min
  have m_list := PySem.W.mg_none_of X G z_list
  have m_sorted := PySem.W.mg_none_of X G z_sorted
  have m_tuple := PySem.W.mg_none_of X G z_tuple
  have m_isinstance := PySem.W.mg_none_of X G z_isinstance
  have m_bool := PySem.W.mg_none_of X G z_bool
  refine ⟨PySem.W.fnOf "law" "law" (defArgs s_law) (defBody s_law) (defScope s_law) .none kV_law dc_law pm_law an_law cd_law ct_law, fun s v => .of_eq rfl, fun base _ _ => ?_⟩
  have c_is_shaped := kd_is_shaped (P := l.prog) (w := w) (base := base) h_is_shaped m_len m_range g_MOST 
  have c_fits := kd_fits (P := l.prog) (w := w) (base := base) h_fits m_len m_sum m_max m_min c_is_shaped
  have c_marks_of := kd_marks_of (P := l.prog) (w := w) (base := base) h_marks_of  
  have c__law_cell_at := kd__law_cell_at (P := l.prog) (w := w) (base := base) h__law_cell_at m_len 
  have c__law_entry := kd__law_entry (P := l.prog) (w := w) (base := base) h__law_entry  
  have c__law_places := kd__law_places (P := l.prog) (w := w) (base := base) h__law_places m_list m_range m_min m_len m_sorted 
  have c__law_bent := kd__law_bent (P := l.prog) (w := w) (base := base) h__law_bent m_len m_sorted 
  have c__law_shaped := kd__law_shaped (P := l.prog) (w := w) (base := base) h__law_shaped m_len m_range 
  have c__law_due := kd__law_due (P := l.prog) (w := w) (base := base) h__law_due m_len m_sum m_max m_min c__law_shaped
  have c__law_made_even := kd__law_made_even (P := l.prog) (w := w) (base := base) h__law_made_even m_len m_sum c__law_shaped
  exact ok_law h_law m_range m_tuple m_list m_isinstance m_bool c__law_cell_at c__law_entry c__law_bent c__law_places c__law_made_even c_fits c__law_due c__law_shaped c_marks_of
end Dat
open PySem PySem.W PyProof.Rows
set_option maxRecDepth 100000 in
set_option maxHeartbeats 0 in
theorem PySem.Challenge.cw_tickoff_k03_fits_holds : PySem.Challenge.rw_tickoff_k03_fits.Holds := by
  w_on; o_law; k_head; (case hw => w_witness2)
  k_fill
  refine L2.walk_of (l := PySem.Challenge.rw_tickoff_k03_fits) (n := 63) (k := 3) (x := "_law_script") (CX := fun _ => L2.CX0) (sp := fun w => Dat.spD _ Dat.S_law) rfl (by decide) rfl ⟨rfl, by decide, by decide⟩ (fun w h Y => PySem.W.kIn_of Y) ?F (fun _ _ a ns hl _ hS => Dat.law_sp Dat.law_holds hl hS _ _ fun _ => rfl) fun _ _ _ _ _ z => z
  case F =>
    intro w mg fa h KX G hmg
    refine' Dat.all_mk KX G hmg ?a_is_shaped ?l_is_shaped ?c_is_shaped ?k_is_shaped ?a_fits ?l_fits ?c_fits ?k_fits ?a_marks_of ?l_marks_of ?c_marks_of ?k_marks_of ?a__law_cell_at ?l__law_cell_at ?c__law_cell_at ?k__law_cell_at ?a__law_entry ?l__law_entry ?c__law_entry ?k__law_entry ?a__law_places ?l__law_places ?c__law_places ?k__law_places ?a__law_bent ?l__law_bent ?c__law_bent ?k__law_bent ?a__law_shaped ?l__law_shaped ?c__law_shaped ?k__law_shaped ?a__law_due ?l__law_due ?c__law_due ?k__law_due ?a__law_made_even ?l__law_made_even ?c__law_made_even ?k__law_made_even ?a_law ?l_law ?c_law ?k_law ?z_MOST ?z_len ?z_range ?z_sum ?z_max ?z_min ?z_list ?z_sorted ?z_tuple ?z_isinstance ?z_bool
    (case a_is_shaped => k_is)
    (case l_is_shaped => k_is)
    (case c_is_shaped => k_is)
    (case k_is_shaped => k_is)
    (case a_fits => k_is)
    (case l_fits => k_is)
    (case c_fits => k_is)
    (case k_fits => k_is)
    (case a_marks_of => k_is)
    (case l_marks_of => k_is)
    (case c_marks_of => k_is)
    (case k_marks_of => k_is)
    (case a__law_cell_at => k_is)
    (case l__law_cell_at => k_is)
    (case c__law_cell_at => k_is)
    (case k__law_cell_at => k_is)
    (case a__law_entry => k_is)
    (case l__law_entry => k_is)
    (case c__law_entry => k_is)
    (case k__law_entry => k_is)
    (case a__law_places => k_is)
    (case l__law_places => k_is)
    (case c__law_places => k_is)
    (case k__law_places => k_is)
    (case a__law_bent => k_is)
    (case l__law_bent => k_is)
    (case c__law_bent => k_is)
    (case k__law_bent => k_is)
    (case a__law_shaped => k_is)
    (case l__law_shaped => k_is)
    (case c__law_shaped => k_is)
    (case k__law_shaped => k_is)
    (case a__law_due => k_is)
    (case l__law_due => k_is)
    (case c__law_due => k_is)
    (case k__law_due => k_is)
    (case a__law_made_even => k_is)
    (case l__law_made_even => k_is)
    (case c__law_made_even => k_is)
    (case k__law_made_even => k_is)
    (case a_law => k_is)
    (case l_law => k_is)
    (case c_law => k_is)
    (case k_law => k_is)
    (case z_MOST => k_is)
    (case z_len => k_is)
    (case z_range => k_is)
    (case z_sum => k_is)
    (case z_max => k_is)
    (case z_min => k_is)
    (case z_list => k_is)
    (case z_sorted => k_is)
    (case z_tuple => k_is)
    (case z_isinstance => k_is)
    (case z_bool => k_is)
